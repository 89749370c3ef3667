import PyProof.Rows.All
import Wide.All
import OpenK.AllK
import Wide.FinOn
import HandS.ForMost
import HandS.Flow
import HandS.Exc
import HandS.TryOnly
import HandS.ExcOwn
import HandS.WordsExc
import HandS.Walk
import HandS.Deep
import HandS.Style
import KE.SortData
import HandS.RaiseMore
import HandS.Defaults
import PyProof.CollectIter
import PyProof.WalksMore
import HandS.Strs
import HandS.IsInst
import HandS.DictComp
import HandS.Set
import KE.DataMinMax
import HandS.Zip
import HandS.TupSets
import HandS.TupAny
import HandS.TupLen
import KE.GoesSet
import PyProof.Rows.RowBridgeK
import PySem.Challenge.RW_ticketyard_k02_flows_by_hand
set_option Elab.async false
set_option linter.all false
set_option maxRecDepth 100000
namespace Y
open PySem PySem.W

/-! ### what an evaluation gives -/
abbrev D := PyData
structure Exn where
  cls : Nat
  fs : List D
inductive R (α : Type) where
  | ok (a : α)
  | ex (x : Exn) (k : Nat)
  | no
def R.bind {α β : Type} : R α → (α → R β) → R β
  | .ok a, f => f a
  | .ex x k, _ => .ex x k
  | .no, _ => .no
instance : Monad R where
  pure := .ok
  bind := R.bind
@[simp] theorem bind_ok {α β : Type} (a : α) (f : α → R β) : (R.ok a >>= f) = f a := rfl
@[simp] theorem bind_ex {α β : Type} (x : Exn) (k : Nat) (f : α → R β) : ((R.ex x k : R α) >>= f) = .ex x k := rfl
@[simp] theorem bind_no {α β : Type} (f : α → R β) : ((R.no : R α) >>= f) = .no := rfl
@[simp] theorem pure_ok {α : Type} (a : α) : (pure a : R α) = .ok a := rfl
/-- the same, told at k -/
def R.at {α : Type} : R α → Nat → R α
  | .ex x _, k => .ex x k
  | r, _ => r
@[simp] theorem at_ok {α : Type} (a : α) (k : Nat) : (R.ok a).at k = .ok a := rfl
def R.of {α : Type} : Option α → R α
  | some a => .ok a
  | none => .no
@[simp] theorem of_some {α : Type} (a : α) : R.of (some a) = .ok a := rfl
@[simp] theorem of_none {α : Type} : R.of (none : Option α) = .no := rfl

/-- what a slot holds: a datum; a list, a dict of the frame's own (t: its keys are tuples); the row of draws -/
inductive SV where
  | d (x : D)
  | own (l : List D)
  | ownd (t : Bool) (k : List (D × D))
  | town
  | scr
abbrev Rho := List (Option SV)

/-! ### the words of the little language -/
inductive Bin where | add | sub | mul | fdiv | mod
  deriving DecidableEq
inductive Bi where
  | len | tuple | list | sorted | any | all | sum | abs | str | int | max | min
  | lenSet | sortedSet
  deriving DecidableEq
inductive Ty where | str | int | bool | tuple | list
  deriving DecidableEq
inductive Mt where | get | items | values | index | split | replace | join
  deriving DecidableEq
mutual
/-- a target: a name's slot; some targets in a tuple; some, and a star behind -/
inductive Tg where
  | nm (i : Nat)
  | tp (ts : Tgs)
  | st (ts : Tgs) (i : Nat)
inductive Tgs where
  | nil
  | cons (t : Tg) (ts : Tgs)
end
mutual
inductive E where
  | omit
  | var (i : Nat)
  | cst (d : D)
  | glb (j : Nat)
  | tup (es : Es)
  | lst (es : Es)
  | dct (es : Es)
  | bin (o : Bin) (a b : E)
  | cmp (o : CmpOp) (a b : E)
  | chn (o o' : CmpOp) (a b c : E)
  | nt (a : E)
  | neg (a : E)
  | bop (isOr : Bool) (a b : E)
  | ite (c a b : E)
  | ix (a i : E)
  | sl (a lo hi : E)
  | call (j : Nat) (es ks : Es)
  | callT (j : Nat) (es : Es)
  | bi (b : Bi) (a : E)
  | mt (m : Mt) (a : E) (es : Es)
  | twl
  | twm (j : Int)
  | isi (t : Ty) (a : E)
  | sset (a : E)
  | lset (a : E)
  | repL (a e : E)
  | mind (a : E)
  | lstd (a : E)
  | sset2 (own : List Nat) (tg : Tg) (it : It) (c : E) (own1 : List Nat) (tg1 : Tg) (it1 : It) (c1 : E) (elt : E)
  | comp (own : List Nat) (tg : Tg) (it : It) (c : E) (elt : E)
  | comp2 (own : List Nat) (tg : Tg) (it : It) (c : E) (own1 : List Nat) (tg1 : Tg) (it1 : It) (c1 : E) (elt : E)
inductive Es where
  | nil
  | cons (e : E) (es : Es)
inductive It where
  | lst (e : E)
  | tup (e : E)
  | keys (e : E)
  | rng (e : E)
  | enum (e : E)
  | zip (a b : E)
end
mutual
inductive S where
  | expr (e : E)
  | frz (i : Nat)
  | set (i : Nat) (own : Bool) (e : E)
  | unp (tg : Tg) (e : E)
  | par (is : List (Nat × Bool)) (es : Es)
  | aug (i : Nat) (o : Bin) (e : E)
  | app (i : Nat) (e : E)
  | put (i : Nat) (k v : E)
  | iff (c : E) (a b : Ss)
  | whl (c : E) (b : Ss)
  | forr (tg : Tg) (it : It) (b : Ss)
  | ret (e : E)
  | brk
  | cont
  | pass
  | bad
  | tka (e : E)
  | tkb
  | tkc (j : Int)
  | star (ts : Tgs) (j : Nat) (own : Bool) (e : E)
inductive Ss where
  | nil
  | cons (s : S) (ss : Ss)
end

/-! ### operations upon data -/
def lim (n : Nat) : Bool := decide (n ≤ 16777216)
mutual
def noD : D → Bool
  | .list l => noDs l
  | .tuple l => noDs l
  | .dict _ => false
  | _ => true
def noDs : List D → Bool
  | [] => true
  | x :: l => noD x && noDs l
end
mutual
/-- no list, no dict within -/
def flat : D → Bool
  | .list _ => false
  | .tuple l => flats l
  | .dict _ => false
  | _ => true
def flats : List D → Bool
  | [] => true
  | x :: l => flat x && flats l
end
/-- == may be asked -/
def dOk (x : D) : Bool := noD x && decide (x.depth ≤ 64)
def eqD (x y : D) : Option Bool := if dOk x && dOk y then some (PyData.eqv x y) else none
def keyK : D → Bool
  | .int _ => true
  | .str _ => true
  | _ => false
def keyOk (t : Bool) (x : D) : Bool := match t, x with
  | false, x => keyK x
  | true, .tuple [a, b] => keyK a && keyK b
  | true, _ => false
def dget (kvs : List (D × D)) (k : D) : Option D := (kvs.find? fun kv => PyData.eqv kv.1 k).map (·.2)
def dput (kvs : List (D × D)) (k v : D) : List (D × D) :=
  if (kvs.any fun kv => PyData.eqv kv.1 k) then kvs.map (fun kv => if PyData.eqv kv.1 k then (kv.1, v) else kv) else kvs ++ [(k, v)]
/-- the dict's keys are of this kind -/
def kindD (kvs : List (D × D)) : Bool := match kvs with
  | (.tuple _, _) :: _ => true
  | _ => false
def inD (x y : D) : Option Bool := match y with
  | .list l => if dOk x && dOk (.list l) then some (l.any fun z => PyData.eqv z x) else none
  | .tuple l => if dOk x && dOk (.tuple l) then some (l.any fun z => PyData.eqv z x) else none
  | .dict kvs => if keyOk (kindD kvs) x then some (dget kvs x).isSome else none
  | .str z => match x with
    | .str y => some (!(Builtin.Str.occurrences z y 0 z.length 1).isEmpty)
    | _ => none
  | _ => none
def isN : D → Bool
  | .none => true
  | _ => false
def cmpD : CmpOp → D → D → Option Bool
  | .Eq, x, y => eqD x y
  | .NotEq, x, y => (eqD x y).map (!·)
  | .In, x, y => inD x y
  | .NotIn, x, y => (inD x y).map (!·)
  | .Is, x, y => match y with
    | .none => some (isN x)
    | _ => none
  | .IsNot, x, y => match y with
    | .none => some (!isN x)
    | _ => none
  | .Lt, .int i, .int j => some (decide (i < j))
  | .LtE, .int i, .int j => some (decide (i ≤ j))
  | .Gt, .int i, .int j => some (decide (j < i))
  | .GtE, .int i, .int j => some (decide (j ≤ i))
  | .Lt, .str i, .str j => some (decide (i.cps.toList < j.cps.toList))
  | .LtE, .str i, .str j => some (!decide (j.cps.toList < i.cps.toList))
  | .Gt, .str i, .str j => some (decide (j.cps.toList < i.cps.toList))
  | .GtE, .str i, .str j => some (!decide (i.cps.toList < j.cps.toList))
  | _, _, _ => none
def small64 (i : Int) : Bool := decide (-(2 ^ 64) < i ∧ i < 2 ^ 64)
def binD : Bin → D → D → Option D
  | .add, .int i, .int j => some (.int (i + j))
  | .add, .str x, .str y => if lim (x.length + y.length) then some (.str (x ++ y)) else none
  | .add, .tuple x, .tuple y => if lim (x.length + y.length) then some (.tuple (x ++ y)) else none
  | .add, .list x, .list y => if lim (x.length + y.length) then some (.list (x ++ y)) else none
  | .sub, .int i, .int j => some (.int (i - j))
  | .mul, .int i, .int j => if small64 i || small64 j then some (.int (i * j)) else none
  | .fdiv, .int i, .int j => if decide (0 < j ∧ j < 1073741824) then some (.int (i / j)) else none
  | .mod, .int i, .int j => if decide (0 < j) then some (.int (i % j)) else none
  | _, _, _ => none
def augD : Bin → D → D → Option D
  | .add, .int i, .int j => some (.int (i + j))
  | .sub, .int i, .int j => some (.int (i - j))
  | _, _, _ => none
def truD : D → Option Bool
  | .none => some false
  | .bool b => some b
  | .int i => some (i != 0)
  | .str x => some ((x.length : Int) != 0)
  | .list l => some (!l.isEmpty)
  | .tuple l => some (!l.isEmpty)
  | .dict l => if kindD l then none else some (!l.isEmpty)
def ixD (x i : D) : Option D := match x with
  | .list l => match i with
    | .int i => L2.atI l i
    | _ => none
  | .tuple l => match i with
    | .int i => L2.atI l i
    | _ => none
  | .dict kvs => if keyOk (kindD kvs) i then dget kvs i else none
  | .str s => match i with
    | .int i => (L2.atI s.cps.toList i).map fun c => .str ⟨#[c]⟩
    | _ => none
  | _ => none
def cutD (l : List D) (lo hi : Option Int) : List D := (l.drop (HT.sIx l.length 0 lo)).take (HT.sIx l.length l.length hi - HT.sIx l.length 0 lo)
def slD (x : D) (lo hi : Option Int) : Option D := match x with
  | .list l => some (.list (cutD l lo hi))
  | .tuple l => some (.tuple (cutD l lo hi))
  | _ => none
def intOf : D → Option Int
  | .int i => some i
  | _ => none
def boolOf : D → Option Bool
  | .bool b => some b
  | _ => none
def intsOf : List D → Option (List Int)
  | [] => some []
  | x :: l => do
    let i ← intOf x
    let r ← intsOf l
    pure (i :: r)
def boolsOf : List D → Option (List Bool)
  | [] => some []
  | x :: l => do
    let i ← boolOf x
    let r ← boolsOf l
    pure (i :: r)
def strOf : D → Option Str
  | .str i => some i
  | _ => none
def strsOf : List D → Option (List Str)
  | [] => some []
  | x :: l => do
    let i ← strOf x
    let r ← strsOf l
    pure (i :: r)
def maxI : List Int → Option Int
  | [] => none
  | x :: l => some (l.foldl (fun a b => if a < b then b else a) x)
def insStr (x : Str) : List Str → List Str
  | [] => [x]
  | y :: l => if decide (y.cps.toList < x.cps.toList) then y :: insStr x l else x :: y :: l
def sortStr : List Str → List Str
  | [] => []
  | x :: l => insStr x (sortStr l)
def biD : Bi → D → Option D
  | .len, .list l => some (.int l.length)
  | .len, .tuple l => some (.int l.length)
  | .len, .str x => some (.int x.length)
  | .len, .dict l => some (.int l.length)
  | .tuple, .list l => some (.tuple l)
  | .tuple, .tuple l => some (.tuple l)
  | .list, .list l => some (.list l)
  | .list, .tuple l => some (.list l)
  | .any, .list l => (boolsOf l).map fun b => .bool (b.any id)
  | .all, .list l => (boolsOf l).map fun b => .bool (b.all id)
  | .sum, .list l => (intsOf l).map fun b => .int b.sum
  | .abs, .int i => some (.int (if i < 0 then -i else i))
  | .max, .list l => (intsOf l).bind fun b => (maxI b).map .int
  | .str, .int i => if decide (i.natAbs.log2 < 1920) && PySem.PyData.strOk (toString i : Str) && lim (toString i : Str).length then some (.str (toString i : Str)) else none
  | .str, .str x => some (.str x)
  | .int, .int i => some (.int i)
  | .int, .bool b => some (.int (if b then 1 else 0))
  | .int, .str a => if decide (a.length ≤ 640) then (PySem.intText? a).map .int else none
  | .sorted, .list l => (strsOf l).bind fun b => if decide (b.length < 64) then some (.list ((sortStr b).map .str)) else none
  | _, _ => none
def seqOf : D → Option (List D)
  | .list l => some l
  | .tuple l => some l
  | _ => none
def isD (t : Ty) : D → Bool
  | .bool _ => decide (t = .bool) || decide (t = .int)
  | .int _ => decide (t = .int)
  | .str _ => decide (t = .str)
  | .list _ => decide (t = .list)
  | .tuple _ => decide (t = .tuple)
  | _ => false
def keyOf : D → Option (Int ⊕ Str)
  | .int i => some (.inl i)
  | .str x => some (.inr x)
  | _ => none
def keysOf : List D → Option (List (Int ⊕ Str))
  | [] => some []
  | x :: l => do
    let i ← keyOf x
    let r ← keysOf l
    pure (i :: r)
def dedK (ks : List (Int ⊕ Str)) : List (Int ⊕ Str) := ks.foldl (fun (l : List (Int ⊕ Str)) (k : Int ⊕ Str) => if l.any (fun y => decide (y = k)) then l else l ++ [k]) []
def lsetD (x : D) : Option D := (seqOf x).bind fun l => (keysOf l).bind fun ks => if decide (ks.length < 64) then some (.int (dedK ks).length) else none
def replD : D → D → Option D
  | .list l, .int n => if decide (0 ≤ n ∧ n ≤ 1000) && decide (l.length ≤ 1000) then some (.list (List.replicate n.toNat l).flatten) else none
  | _, _ => none
def alikeOk (l : List D) : Bool := (l.all fun a => l.all fun b => PySem.W.alike a b) && (l.all fun a => !isN a) && dOk (.list l)
def minOf : D → Option D
  | .list (x :: l) => if alikeOk (x :: l) then some (PySem.W.minD x l) else none
  | _ => none
def lstdD : D → Option D
  | .dict kvs => if kindD kvs then none else some (.list (kvs.map (·.1)))
  | _ => none
def strOkB0 (x : Str) : Bool := PySem.PyData.strOk x && lim x.length
def mtD : Mt → D → List D → Option D
  | .get, .dict kvs, [k] => if keyOk (kindD kvs) k then some ((dget kvs k).getD .none) else none
  | .get, .dict kvs, [k, x] => if keyOk (kindD kvs) k then some ((dget kvs k).getD x) else none
  | .split, .str a, [.str b] => if !(b.length == 0) && decide (a.length + 2 ≤ 16777216) then some (.list ((Txt.split a b).map .str)) else none
  | .replace, .str a, [.str b, .str c] => if strOkB0 (Txt.replace a b c) then some (.str (Txt.replace a b c)) else none
  | _, _, _ => none

/-- the kind of thing whose method it is -/
def rcv : Mt → D → Option Unit
  | .get, .dict _ => some ()
  | .split, .str _ => some ()
  | .replace, .str _ => some ()
  | .join, .str _ => some ()
  | _, _ => none

/-! ### the machine -/
structure G where
  fn : Nat → List D → R D
  fnT : Nat → List D → Nat → R (D × Nat)
  gl : Nat → D
  om : Nat → Nat
  fuel : Nat
  tw : Nat → List Int
  scr : D

inductive Kd where | pl | tr | fr
  deriving DecidableEq
def Kd.join : Kd → Kd → Kd
  | .tr, _ => .tr
  | _, .tr => .tr
  | _, _ => .pl
def kdOf (ρ : Rho) : E → Kd
  | .var i => match ρ[i]? with
    | some (some (.own _)) => .tr
    | some (some (.ownd _ _)) => .tr
    | _ => .pl
  | .lst _ => .fr
  | .dct _ => .fr
  | .comp _ _ _ _ _ => .fr
  | .comp2 _ _ _ _ _ _ _ _ _ => .fr
  | .ite _ a b => (kdOf ρ a).join (kdOf ρ b)
  | .bop _ a b => (kdOf ρ a).join (kdOf ρ b)
  | .bi .list _ => .fr
  | .sset _ => .fr
  | .repL _ _ => .fr
  | .lstd _ => .fr
  | .bin .add _ _ => .pl
  | _ => .pl
def anyTr (ρ : Rho) : Es → Bool
  | .nil => false
  | .cons e es => decide (kdOf ρ e = .tr) || anyTr ρ es
def isTr (k : Kd) : Bool := decide (k = .tr)
def trI (ρ : Rho) : It → Bool
  | .lst e => isTr (kdOf ρ e)
  | .tup _ => false
  | .keys e => isTr (kdOf ρ e)
  | .rng _ => false
  | .enum e => isTr (kdOf ρ e)
  | .zip a b => isTr (kdOf ρ a) || isTr (kdOf ρ b)
def wipeR (ρ : Rho) : List Nat → Rho
  | [] => ρ
  | v :: vs => (wipeR ρ vs).set v none
mutual
def bindT : Tg → D → Rho → Option Rho
  | .nm i, x, ρ => if i < ρ.length then some (ρ.set i (some (.d x))) else none
  | .tp ts, .tuple l, ρ => bindTs ts l ρ
  | .tp _, _, _ => none
  | .st _ _, _, _ => none
def bindTs : Tgs → List D → Rho → Option Rho
  | .nil, [], ρ => some ρ
  | .cons t ts, x :: l, ρ => (bindT t x ρ).bind fun ρ' => bindTs ts l ρ'
  | _, _, _ => none
end
def compL (bnd : D → Option Rho) (tst : Rho → Nat → R (Bool × Nat)) (elt : Rho → Nat → R (D × Nat)) : List D → Nat → R (List D × Nat)
  | [], k => .ok ([], k)
  | x :: l, k => match bnd x with
    | none => .no
    | some ρ => do
      let (b, k) ← tst ρ k
      if b then
        let (y, k) ← elt ρ k
        let (r, k) ← compL bnd tst elt l k
        pure (y :: r, k)
      else compL bnd tst elt l k
def comp2L (bnd : D → Option Rho) (tst : Rho → Nat → R (Bool × Nat)) (inner : Rho → Nat → R (List D × Nat)) : List D → Nat → R (List D × Nat)
  | [], k => .ok ([], k)
  | x :: l, k => match bnd x with
    | none => .no
    | some ρ => do
      let (b, k) ← tst ρ k
      if b then
        let (r1, k) ← inner ρ k
        let (r2, k) ← comp2L bnd tst inner l k
        pure (r1 ++ r2, k)
      else comp2L bnd tst inner l k
def itemsOf (k : Nat) : D → Option (List D)
  | .list l => some l
  | _ => none
def pairUp : List D → List D → List D
  | x :: l, y :: m => .tuple [x, y] :: pairUp l m
  | _, _ => []
def rangeD (n : Int) : List D := (List.range n.toNat).map fun i => .int (i : Nat)
def enumD (l : List D) : List D := pairUp (rangeD l.length) l
def getL : D → Option (List D)
  | .list l => some l
  | _ => none
def getT : D → Option (List D)
  | .tuple l => some l
  | _ => none
def getK : D → Option (List D)
  | .dict l => some (l.map (·.1))
  | _ => none
def getR : D → Option (List D)
  | .int n => if decide (-(2 ^ 62) ≤ n ∧ n < 2 ^ 62 ∧ n ≤ 16777216) then some (rangeD n) else none
  | _ => none
def zipD : D → D → Option (List D)
  | .list l, .list m => some (pairUp l m)
  | .tuple l, .tuple m => some (pairUp l m)
  | _, _ => none
def isOmit : E → Bool
  | .omit => true
  | _ => false
def endOf (o : Bool) (k : Nat) (r : R (D × Nat)) : R (Option Int × Nat) :=
  if o then .ok (none, k) else r >>= fun y => R.of (intOf y.1) >>= fun i => .ok (some i, y.2)
def optI : D → Option (Option Int)
  | .int n => some (some n)
  | _ => none
/-- no error leaves a comprehension -/
def R.nox {α : Type} : R α → R α
  | .ex _ _ => .no
  | r => r
def tstR (r : R (D × Nat)) : R (Bool × Nat) := r.nox >>= fun x => R.of (truD x.1) >>= fun b => .ok (b, x.2)
/-- none of these slots is one of the frame's own -/
def wipeOk (ρ : Rho) (vs : List Nat) : Bool := vs.all fun i => match ρ[i]? with
  | some (some (.own _)) => false
  | some (some (.ownd _ _)) => false
  | _ => true
/-- the script and the row of draws stand in the first two slots -/
def lawIn (ρ : Rho) : Bool := match ρ with
  | some .scr :: some .town :: _ => true
  | _ => false
def pairs2 : List D → Option (List (D × D))
  | [] => some []
  | x :: y :: l => (pairs2 l).map fun r => (x, y) :: r
  | _ => none
def dedS (xs : List Str) : List Str := xs.foldl (fun l x => if (l.any fun y => decide (y = x)) then l else l ++ [x]) []
def isTown (ρ : Rho) : Bool := match (ρ[(1 : Nat)]? : Option (Option SV)) with
  | some (some .town) => true
  | _ => false
mutual
def ev (g : G) : E → Rho → Nat → R (D × Nat)
  | .omit, _, _ => .no
  | .var i, ρ, k => match ρ[i]? with
    | some (some (.d x)) => .ok (x, k)
    | some (some (.own l)) => .ok (.list l, k)
    | some (some (.ownd t l)) => if t = kindD l then .ok (.dict l, k) else .no
    | some (some .scr) => .ok (g.scr, k)
    | _ => .no
  | .sset2 own tg it c own1 tg1 it1 c1 elt, ρ, k => if !wipeOk ρ own then .no else do
    let (l, k) ← evi g it ρ k
    let (r, k) ← (comp2L (fun x => bindT tg x (wipeR ρ own)) (fun ρ k => tstR (ev g c ρ k)) (fun ρ k => if !wipeOk ρ own1 || trI ρ it1 then .no else (evi g it1 ρ k).nox >>= fun q =>
      compL (fun x => bindT tg1 x (wipeR ρ own1)) (fun ρ k => tstR (ev g c1 ρ k)) (fun ρ k => if kdOf ρ elt = .tr then .no else (ev g elt ρ k).nox) q.1 q.2) l k).nox
    let xs ← R.of (strsOf r)
    if decide ((dedS xs).length < 64) then pure (.list ((sortStr (dedS xs)).map .str), k) else .no
  | .isi t a, ρ, k => do
    let (x, k) ← ev g a ρ k
    pure (.bool (isD t x), k)
  | .sset a, ρ, k => do
    let (x, k) ← ev g a ρ k
    let l ← R.of (seqOf x)
    let xs ← R.of (strsOf l)
    if decide (xs.length < 64) then pure (.list ((sortStr (dedS xs)).map .str), k) else .no
  | .lset a, ρ, k => do
    let (x, k) ← ev g a ρ k
    let z ← R.of (lsetD x)
    pure (z, k)
  | .repL a e, ρ, k => if kdOf ρ a ≠ .fr then .no else do
    let (x, k) ← ev g a ρ k
    let (y, k) ← ev g e ρ k
    let z ← R.of (replD x y)
    pure (z, k)
  | .mind a, ρ, k => do
    let (x, k) ← ev g a ρ k
    let z ← R.of (minOf x)
    pure (z, k)
  | .lstd a, ρ, k => do
    let (x, k) ← ev g a ρ k
    let z ← R.of (lstdD x)
    pure (z, k)
  | .twl, ρ, k => if isTown ρ then .ok (.int (g.tw k).length, k) else .no
  | .twm j, ρ, k => if isTown ρ then (match g.tw k with
      | m :: _ => if decide (0 < j) then .ok (.int (m % j), k) else .no
      | [] => .no) else .no
  | .cst d, _, k => .ok (d, k)
  | .glb j, _, k => .ok (g.gl j, k)
  | .tup es, ρ, k => if anyTr ρ es then .no else do
    let (ds, k) ← evs g es ρ k
    pure (.tuple ds, k)
  | .lst es, ρ, k => if anyTr ρ es then .no else do
    let (ds, k) ← evs g es ρ k
    pure (.list ds, k)
  | .dct es, ρ, k => if anyTr ρ es then .no else do
    let (ds, k) ← evs g es ρ k
    let kvs ← R.of (pairs2 ds)
    if kvs.all fun kv => keyK kv.1 then pure (.dict (kvs.foldl (fun l kv => dput l kv.1 kv.2) []), k) else .no
  | .bin o a b, ρ, k => do
    let (x, k) ← ev g a ρ k
    let (y, k) ← ev g b ρ k
    let z ← R.of (binD o x y)
    pure (z, k)
  | .cmp o a b, ρ, k => do
    let (x, k) ← ev g a ρ k
    let (y, k) ← ev g b ρ k
    let z ← R.of (cmpD o x y)
    pure (.bool z, k)
  | .chn o o' a b c, ρ, k => do
    let (x, k) ← ev g a ρ k
    let (y, k) ← ev g b ρ k
    let z ← R.of (cmpD o x y)
    if z then
      let (u, k) ← ev g c ρ k
      let z ← R.of (cmpD o' y u)
      pure (.bool z, k)
    else pure (.bool false, k)
  | .nt a, ρ, k => do
    let (x, k) ← ev g a ρ k
    let b ← R.of (truD x)
    pure (.bool (!b), k)
  | .neg a, ρ, k => do
    let (x, k) ← ev g a ρ k
    let i ← R.of (intOf x)
    pure (.int (-i), k)
  | .bop isOr a b, ρ, k => do
    let (x, k) ← ev g a ρ k
    let t ← R.of (truD x)
    if t = isOr then pure (x, k) else ev g b ρ k
  | .ite c a b, ρ, k => do
    let (x, k) ← ev g c ρ k
    let t ← R.of (truD x)
    if t then ev g a ρ k else ev g b ρ k
  | .ix a i, ρ, k => do
    let (x, k) ← ev g a ρ k
    let (y, k) ← ev g i ρ k
    let z ← R.of (ixD x y)
    pure (z, k)
  | .sl a lo hi, ρ, k => do
    let (x, k) ← ev g a ρ k
    let (lo, k) ← endOf (isOmit lo) k (ev g lo ρ k)
    let (hi, k) ← endOf (isOmit hi) k (ev g hi ρ k)
    let z ← R.of (slD x lo hi)
    pure (z, k)
  | .call j es ks, ρ, k => do
    let (ds, k) ← evs g es ρ k
    let (zs, k) ← evs g ks ρ k
    let r ← (g.fn j (ds ++ zs)).at k
    if (anyTr ρ es || anyTr ρ ks) && !flat r then .no else pure (r, k)
  | .callT j es, ρ, k => if anyTr ρ es || !lawIn ρ then .no else do
    let (ds, k) ← evs g es ρ k
    g.fnT j ds k
  | .bi b a, ρ, k => do
    let (x, k) ← ev g a ρ k
    let z ← R.of (biD b x)
    pure (z, k)
  | .mt m a es, ρ, k => if anyTr ρ es then .no else do
    let (x, k) ← ev g a ρ k
    let _ ← R.of (rcv m x)
    let (ds, k) ← evs g es ρ k
    let z ← R.of (mtD m x ds)
    pure (z, k)
  | .comp own tg it c elt, ρ, k => if !wipeOk ρ own then .no else do
    let (l, k) ← evi g it ρ k
    let (r, k) ← compL (fun x => bindT tg x (wipeR ρ own)) (fun ρ k => tstR (ev g c ρ k)) (fun ρ k => if kdOf ρ elt = .tr then .no else (ev g elt ρ k).nox) l k
    pure (.list r, k)
  | .comp2 own tg it c own1 tg1 it1 c1 elt, ρ, k => if !wipeOk ρ own then .no else do
    let (l, k) ← evi g it ρ k
    let (r, k) ← (comp2L (fun x => bindT tg x (wipeR ρ own)) (fun ρ k => tstR (ev g c ρ k)) (fun ρ k => if !wipeOk ρ own1 || trI ρ it1 then .no else (evi g it1 ρ k).nox >>= fun q =>
      compL (fun x => bindT tg1 x (wipeR ρ own1)) (fun ρ k => tstR (ev g c1 ρ k)) (fun ρ k => if kdOf ρ elt = .tr then .no else (ev g elt ρ k).nox) q.1 q.2) l k).nox
    if lim r.length then pure (.list r, k) else .no
def evs (g : G) : Es → Rho → Nat → R (List D × Nat)
  | .nil, _, k => .ok ([], k)
  | .cons e es, ρ, k => do
    let (x, k) ← ev g e ρ k
    let (l, k) ← evs g es ρ k
    pure (x :: l, k)
def evi (g : G) : It → Rho → Nat → R (List D × Nat)
  | .lst e, ρ, k => do
    let (x, k) ← ev g e ρ k
    let l ← R.of (getL x)
    pure (l, k)
  | .tup e, ρ, k => do
    let (x, k) ← ev g e ρ k
    let l ← R.of (getT x)
    pure (l, k)
  | .keys e, ρ, k => do
    let (x, k) ← ev g e ρ k
    let l ← R.of (getK x)
    pure (l, k)
  | .rng e, ρ, k => do
    let (x, k) ← ev g e ρ k
    let l ← R.of (getR x)
    pure (l, k)
  | .enum e, ρ, k => do
    let (x, k) ← ev g e ρ k
    let l ← R.of (getL x)
    pure (enumD l, k)
  | .zip a b, ρ, k => do
    let (x, k) ← ev g a ρ k
    let (y, k) ← ev g b ρ k
    let l ← R.of (zipD x y)
    pure (l, k)
end

/-! ### statements -/
inductive Out where
  | nx (ρ : Rho) (k : Nat)
  | rt (x : D) (k : Nat)
  | bk (ρ : Rho) (k : Nat)
  | ct (ρ : Rho) (k : Nat)
  | ex (x : Exn) (k : Nat)
  | no
/-- an expression's value, then on -/
def R.go : R (D × Nat) → (D → Nat → Out) → Out
  | .ok (x, k), f => f x k
  | .ex x k, _ => .ex x k
  | .no, _ => .no
def Out.go : Out → (Rho → Nat → Out) → Out
  | .nx ρ k, f => f ρ k
  | o, _ => o
def ooo (o : Option Out) : Out := o.getD .no
def forL (bnd : D → Rho → Option Rho) (body : Rho → Nat → Out) : List D → Rho → Nat → Out
  | [], ρ, k => .nx ρ k
  | x :: l, ρ, k => match bnd x ρ with
    | none => .no
    | some ρ => match body ρ k with
      | .nx ρ k => forL bnd body l ρ k
      | .ct ρ k => forL bnd body l ρ k
      | .bk ρ k => .nx ρ k
      | o => o
/-- a test's answer, then on -/
def tst (x : D) (f : Bool → Out) : Out := match truD x with
  | some b => f b
  | none => .no
def whlL (c : Rho → Nat → R (D × Nat)) (body : Rho → Nat → Out) : Nat → Rho → Nat → Out
  | 0, _, _ => .no
  | n + 1, ρ, k => (c ρ k).go fun x k => tst x fun b => if b then
      match body ρ k with
      | .nx ρ k => whlL c body n ρ k
      | .ct ρ k => whlL c body n ρ k
      | .bk ρ k => .nx ρ k
      | o => o
    else .nx ρ k
/-- a value into a slot: into one of its own, or as a datum -/
def setSV (own : Bool) (kd : Kd) (x : D) : Option SV :=
  if own then (match kd, x with
    | .fr, .list l => some (.own l)
    | .fr, .dict kvs => some (.ownd (kindD kvs) kvs)
    | _, _ => none)
  else if kd = .tr then none else some (.d x)
def putS (ρ : Rho) (i : Nat) (o : Option SV) (k : Nat) : Out := match o with
  | some v => if i < ρ.length then .nx (ρ.set i (some v)) k else .no
  | none => .no
def parS : List (Nat × Bool) → List D → Es → Rho → Rho → Option Rho
  | [], [], .nil, _, ρ => some ρ
  | (i, own) :: is, x :: l, .cons e es, ρ0, ρ => match setSV own (kdOf ρ0 e) x with
    | some v => if i < ρ.length then parS is l es ρ0 (ρ.set i (some v)) else none
    | none => none
  | _, _, _, _, _ => none
def Tgs.len : Tgs → Nat
  | .nil => 0
  | .cons _ ts => ts.len + 1
/-- the first ones into targets, a new list of the others into a slot -/
def starS (ts : Tgs) (j : Nat) (own : Bool) (x : D) (ρ : Rho) (k : Nat) : Out := match seqOf x with
  | some l => if ts.len ≤ l.length then (match bindTs ts (l.take ts.len) ρ with
      | some ρ => putS ρ j (setSV own .fr (.list (l.drop ts.len))) k
      | none => .no) else .no
  | none => .no
def parOk : List (Nat × Bool) → Es → Rho → Bool
  | [], .nil, _ => true
  | (_, o) :: is, .cons e es, ρ => (if o then decide (kdOf ρ e = .fr) else decide (kdOf ρ e ≠ .tr)) && parOk is es ρ
  | _, _, _ => false
mutual
def exe (g : G) : S → Rho → Nat → Out
  | .expr e, ρ, k => (ev g e ρ k).go fun _ k => .nx ρ k
  | .frz i, ρ, k => match ρ[i]? with
    | some (some (.own l)) => .nx (ρ.set i (some (.d (.list l)))) k
    | some (some (.ownd t l)) => if t = kindD l then .nx (ρ.set i (some (.d (.dict l)))) k else .no
    | _ => .no
  | .set i own e, ρ, k => (ev g e ρ k).go fun x k => putS ρ i (setSV own (kdOf ρ e) x) k
  | .unp tg e, ρ, k => if kdOf ρ e = .tr then .no else (ev g e ρ k).go fun x k => match bindT tg x ρ with
    | some ρ => .nx ρ k
    | none => .no
  | .par is es, ρ, k => if !parOk is es ρ then .no else match evs g es ρ k with
    | .ok (l, k) => (match parS is l es ρ ρ with
      | some ρ => .nx ρ k
      | none => .no)
    | .ex x k => .ex x k
    | .no => .no
  | .aug i o e, ρ, k => match ρ[i]? with
    | some (some (.d x)) => (ev g e ρ k).go fun y k => (match augD o x y with
      | some z => putS ρ i (some (.d z)) k
      | none => .no)
    | _ => .no
  | .app i e, ρ, k => if kdOf ρ e = .tr then .no else match ρ[i]? with
    | some (some (.own l)) => (ev g e ρ k).go fun y k => if lim (l.length + 1) then .nx (ρ.set i (some (.own (l ++ [y])))) k else .no
    | _ => .no
  | .put i e f, ρ, k => if kdOf ρ f = .tr then .no else match ρ[i]? with
    | some (some (.ownd t l)) => (ev g f ρ k).go fun v k => (ev g e ρ k).go fun y k =>
        if keyOk t y && lim (l.length + 1) then .nx (ρ.set i (some (.ownd t (dput l y v)))) k else .no
    | _ => .no
  | .iff c a b, ρ, k => (ev g c ρ k).go fun x k => tst x fun t => if t then exes g a ρ k else exes g b ρ k
  | .whl c b, ρ, k => whlL (ev g c) (exes g b) g.fuel ρ k
  | .forr tg it b, ρ, k => if trI ρ it then .no else match evi g it ρ k with
    | .ok (l, k) => forL (bindT tg) (exes g b) l ρ k
    | .ex x k => .ex x k
    | .no => .no
  | .ret e, ρ, k => (ev g e ρ k).go fun x k => .rt x k
  | .brk, ρ, k => .bk ρ k
  | .cont, ρ, k => .ct ρ k
  | .pass, ρ, k => .nx ρ k
  | .bad, _, _ => .no
  | .tka e, ρ, k => if isTown ρ then (match g.tw k with
      | [] => (ev g e ρ k).go fun x k' => (match x with
        | .int n => if k' = k ∧ g.tw (k + 1) = [n] then .nx ρ (k + 1) else .no
        | _ => .no)
      | m :: l => if g.tw (k + 1) = m :: l then .nx ρ (k + 1) else .no) else .no
  | .tkb, ρ, k => if isTown ρ && lim ((g.tw k).length + 1) && decide (g.tw (k + 1) = g.tw k ++ [0]) then .nx ρ (k + 1) else .no
  | .tkc j, ρ, k => if isTown ρ && decide (0 < j ∧ j < 1073741824) then (match g.tw k with
      | m :: l => if g.tw (k + 1) = m / j :: l then .nx ρ (k + 1) else .no
      | [] => .no) else .no
  | .star ts j own e, ρ, k => (ev g e ρ k).go fun x k => starS ts j own x ρ k
def exes (g : G) : Ss → Rho → Nat → Out
  | .nil, ρ, k => .nx ρ k
  | .cons s ss, ρ, k => (exe g s ρ k).go (exes g ss)
end
/-- a def's body at its arguments -/
def run (g : G) (n : Nat) (b : Ss) (as : List D) (k : Nat) : R (D × Nat) :=
  match exes g b (as.map (fun x => some (.d x)) ++ List.replicate n none) k with
  | .nx _ k => .ok (.none, k)
  | .rt x k => .ok (x, k)
  | .ex x k => .ex x k
  | _ => .no
end Y

namespace Y
open PySem PySem.W PySem.Spec PyProof.Rows L2

/-- the script, and the row of draws behind so many -/
class TownS where
  tw : Nat → List Int
  scr : D
variable [TownS]
def TownS.town (k : Nat) : List V := (TownS.tw k).map V.int
/-! ### what a datum is in the heap -/
def strOk (x : Str) : Prop := PySem.PyData.strOk x = true ∧ x.length ≤ sizeLine
/-- a key as the layer has it -/
def kD : Key → D
  | .inl i => .int i
  | .inr x => .str x
def kOk : Key → Prop
  | .inl _ => True
  | .inr x => strOk x
mutual
inductive Rp (K : PySem.W.Frag) (H : Hp) : V → D → Prop
  | non : Rp K H .non .none
  | bl (b : Bool) : Rp K H (.bl b) (.bool b)
  | int (i : Int) : Rp K H (.int i) (.int i)
  | str (x : Str) : strOk x → Rp K H (.str x) (.str x)
  | lst {a : Addr} {xs : List V} {ds : List D} : SqL K H a xs → xs.length ≤ sizeLine → Rps K H xs ds → Rp K H (.ref a) (.list ds)
  | tup {a : Addr} {xs : List V} {ds : List D} : SqT K H a xs → xs.length ≤ sizeLine → (xs.length = 2 → H a = some (.tup xs)) → Rps K H xs ds → Rp K H (.ref a) (.tuple ds)
  | dK {a : Addr} {ks : List (Key × V)} {ds : List D} : H a = some (.dK ks) → ks.length ≤ sizeLine → (∀ k ∈ ks, kOk k.1) → (ks.map (·.1)).Nodup → Rps K H (ks.map (·.2)) ds → Rp K H (.ref a) (.dict ((ks.map fun k => kD k.1).zip ds))
  | dT {a : Addr} {ks : List (List Key × V)} {ds : List D} : H a = some (.dT ks) → ks.length ≤ sizeLine → ks ≠ [] → (∀ k ∈ ks, k.1.length = 2 ∧ ∀ q ∈ k.1, kOk q) → (ks.map (·.1)).Nodup → Rps K H (ks.map (·.2)) ds → Rp K H (.ref a) (.dict ((ks.map fun k => .tuple (k.1.map kD)).zip ds))
inductive Rps (K : PySem.W.Frag) (H : Hp) : List V → List D → Prop
  | nil : Rps K H [] []
  | cons {v : V} {vs : List V} {d : D} {ds : List D} : Rp K H v d → Rps K H vs ds → Rps K H (v :: vs) (d :: ds)
end
section
variable {K : PySem.W.Frag} {H H' : Hp}
theorem Rd.same (h : ∀ a o, H a = some o → H' a = some o) {a : Addr} {u : HO} (r : Rd H a u) : Rd H' a u := by
  rcases r with r | ⟨o, r⟩
  · exact .inl (h _ _ r)
  · exact .inr ⟨o, h _ _ r⟩
theorem SqT.same (h : ∀ a o, H a = some o → H' a = some o) {a : Addr} {xs : List V} (r : SqT K H a xs) : SqT K H' a xs := by
  rcases r with r | r
  · exact .inl (Rd.same h r)
  · exact .inr r
theorem SqL.same (h : ∀ a o, H a = some o → H' a = some o) {a : Addr} {xs : List V} (r : SqL K H a xs) : SqL K H' a xs := by
  rcases r with r | r
  · exact .inl (Rd.same h r)
  · exact .inr r
mutual
theorem Rp.mono (h : ∀ a o, H a = some o → H' a = some o) : ∀ {v : V} {d : D}, Rp K H v d → Rp K H' v d
  | _, _, .non => .non
  | _, _, .bl b => .bl b
  | _, _, .int i => .int i
  | _, _, .str x s => .str x s
  | _, _, .lst a b c => .lst (SqL.same h a) b (Rps.mono h c)
  | _, _, .tup a b n c => .tup (SqT.same h a) b (fun q => h _ _ (n q)) (Rps.mono h c)
  | _, _, .dK a b c d e => .dK (h _ _ a) b c d (Rps.mono h e)
  | _, _, .dT a b c d e f => .dT (h _ _ a) b c d e (Rps.mono h f)
theorem Rps.mono (h : ∀ a o, H a = some o → H' a = some o) : ∀ {vs : List V} {ds : List D}, Rps K H vs ds → Rps K H' vs ds
  | _, _, .nil => .nil
  | _, _, .cons a b => .cons (Rp.mono h a) (Rps.mono h b)
end
theorem Rps.length : ∀ {vs : List V} {ds : List D}, Rps K H vs ds → vs.length = ds.length
  | _, _, .nil => rfl
  | _, _, .cons _ b => by simp [Rps.length b]
theorem Rps.get : ∀ {vs : List V} {ds : List D} {i : Nat} {d : D}, Rps K H vs ds → ds[i]? = some d → ∃ v, vs[i]? = some v ∧ Rp K H v d
  | _, _, 0, _, .cons a _, e => by simp at e; subst e; exact ⟨_, rfl, a⟩
  | _, _, i + 1, _, .cons _ b, e => by
    obtain ⟨v, h1, h2⟩ := Rps.get (i := i) b (by simpa using e)
    exact ⟨v, by simpa using h1, h2⟩
theorem Rps.getV : ∀ {vs : List V} {ds : List D} {i : Nat} {v : V}, Rps K H vs ds → vs[i]? = some v → ∃ d, ds[i]? = some d ∧ Rp K H v d
  | _, _, 0, _, .cons a _, e => by simp at e; subst e; exact ⟨_, rfl, a⟩
  | _, _, i + 1, _, .cons _ b, e => by
    obtain ⟨v, h1, h2⟩ := Rps.getV (i := i) b (by simpa using e)
    exact ⟨v, by simpa using h1, h2⟩
theorem Rps.append : ∀ {xs ys : List V} {ds es : List D}, Rps K H xs ds → Rps K H ys es → Rps K H (xs ++ ys) (ds ++ es)
  | _, _, _, _, .nil, s => s
  | _, _, _, _, .cons r t, s => .cons r (Rps.append t s)
theorem Rps.take : ∀ {xs : List V} {ds : List D} (n : Nat), Rps K H xs ds → Rps K H (xs.take n) (ds.take n)
  | _, _, 0, _ => .nil
  | _, _, _ + 1, .nil => .nil
  | _, _, n + 1, .cons r t => .cons r (Rps.take n t)
theorem Rps.drop : ∀ {xs : List V} {ds : List D} (n : Nat), Rps K H xs ds → Rps K H (xs.drop n) (ds.drop n)
  | _, _, 0, r => r
  | _, _, _ + 1, .nil => .nil
  | _, _, n + 1, .cons _ t => Rps.drop n t
theorem Rps.cut {xs : List V} {ds : List D} (r : Rps K H xs ds) (lo hi : Option Int) : Rps K H (cutV xs lo hi) (cutD ds lo hi) := by
  unfold cutV cutD
  rw [r.length]
  exact (r.drop _).take _
theorem Rps.of : ∀ {vs : List V} {ds : List D}, vs.length = ds.length → (∀ (i : Nat) v d, vs[i]? = some v → ds[i]? = some d → Rp K H v d) → Rps K H vs ds
  | [], [], _, _ => .nil
  | v :: vs, d :: ds, e, h => .cons (h 0 v d rfl rfl) (Rps.of (by simpa using e) fun i v d a b => h (i + 1) v d (by simpa using a) (by simpa using b))
  | [], _ :: _, e, _ => by simp at e
  | _ :: _, [], e, _ => by simp at e
mutual
/-- a datum without dicts, as the layer reads it -/
theorem Rp.dp : ∀ {v : V} {d : D}, Rp K H v d → noD d = true → Dp K H v d ∧ d.canLay0 = true
  | _, _, .non, _ => ⟨.non, by simp [PyData.canLay0]⟩
  | _, _, .bl b, _ => ⟨.bl b, by simp [PyData.canLay0]⟩
  | _, _, .int i, _ => ⟨.int i, by simp [PyData.canLay0]⟩
  | _, _, .str x s, _ => ⟨.str x, by simp [PyData.canLay0, s.1]⟩
  | _, _, .lst a _ c, h => by
    have q := Rps.dp c (by simpa [noD] using h)
    exact ⟨.lst a q.1, by simp [PyData.canLay0, q.2]⟩
  | _, _, .tup a _ _ c, h => by
    have q := Rps.dp c (by simpa [noD] using h)
    exact ⟨.tup a q.1, by simp [PyData.canLay0, q.2]⟩
  | _, _, .dK _ _ _ _ _, h => by simp [noD] at h
  | _, _, .dT _ _ _ _ _ _, h => by simp [noD] at h
theorem Rps.dp : ∀ {vs : List V} {ds : List D}, Rps K H vs ds → noDs ds = true → DpAll K H vs ds ∧ PyData.canLayAll0 ds = true
  | _, _, .nil, _ => ⟨.nil, by simp [PyData.canLayAll0]⟩
  | _, _, .cons a b, h => by
    rw [noDs, Bool.and_eq_true] at h
    have q := Rp.dp a h.1
    have r := Rps.dp b h.2
    exact ⟨.cons q.1 r.1, by simp [PyData.canLayAll0, q.2, r.2]⟩
end
theorem Rp.shaped {v : V} {d : D} (r : Rp K H v d) (h : dOk d = true) : Dp K H v d ∧ SeqAt.shaped d = true := by
  unfold dOk at h
  rw [Bool.and_eq_true] at h
  have q := r.dp h.1
  exact ⟨q.1, by unfold SeqAt.shaped; rw [q.2, h.2]; rfl⟩
end

/-! ### the heap without some addresses -/
open Classical in
noncomputable def Hd (H : Hp) (P : Addr → Prop) : Hp := fun a => if P a then none else H a
section
variable {K : PySem.W.Frag} {H H' : Hp} {P P' : Addr → Prop}
theorem Hd.le : ∀ a o, Hd H P a = some o → H a = some o := fun a o e => by
  unfold Hd at e
  split at e
  · cases e
  · exact e
theorem Hd.at {a : Addr} {o : HO} (h : ¬ P a) (e : H a = some o) : Hd H P a = some o := by
  unfold Hd
  rw [if_neg h]
  exact e
theorem Hd.np {a : Addr} {o : HO} (e : Hd H P a = some o) : ¬ P a := fun h => by
  unfold Hd at e
  rw [if_pos h] at e
  cases e
theorem Hd.mono (h : ∀ a o, H a = some o → ¬ P a → H' a = some o) (hp : ∀ a, P' a → ¬ P a → H a = none) : ∀ a o, Hd H P a = some o → Hd H' P' a = some o := fun a o e => by
  have n := Hd.np e
  have e1 := Hd.le a o e
  refine Hd.at (fun q => ?_) (h a o e1 n)
  rw [hp a q n] at e1
  cases e1
theorem Hd.less (hp : ∀ a, P' a → P a) : ∀ a o, Hd H P a = some o → Hd H P' a = some o := fun a o e => Hd.at (fun q => Hd.np e (hp a q)) (Hd.le a o e)
mutual
/-- a flat datum leans on tuples alone -/
theorem Rp.flat (h : ∀ a xs, SqT K H a xs → SqT K H' a xs) (h2 : ∀ a xs, H a = some (.tup xs) → H' a = some (.tup xs)) : ∀ {v : V} {d : D}, Rp K H v d → flat d = true → Rp K H' v d
  | _, _, .non, _ => .non
  | _, _, .bl b, _ => .bl b
  | _, _, .int i, _ => .int i
  | _, _, .str x s, _ => .str x s
  | _, _, .lst _ _ _, q => by simp [Y.flat] at q
  | _, _, .tup a b n c, q => .tup (h _ _ a) b (fun z => h2 _ _ (n z)) (Rps.flat h h2 c (by simpa [Y.flat] using q))
  | _, _, .dK _ _ _ _ _, q => by simp [Y.flat] at q
  | _, _, .dT _ _ _ _ _ _, q => by simp [Y.flat] at q
theorem Rps.flat (h : ∀ a xs, SqT K H a xs → SqT K H' a xs) (h2 : ∀ a xs, H a = some (.tup xs) → H' a = some (.tup xs)) : ∀ {vs : List V} {ds : List D}, Rps K H vs ds → flats ds = true → Rps K H' vs ds
  | _, _, .nil, _ => .nil
  | _, _, .cons a b, q => by
    rw [flats, Bool.and_eq_true] at q
    exact .cons (Rp.flat h h2 a q.1) (Rps.flat h h2 b q.2)
end
end

/-! ### the frame -/
/-- what is fixed in a body: the heap at its entry, what data keep away from, the row of draws -/
structure Bs where
  H0 : Hp
  P0 : Addr → Prop
  T : Option (Addr × (Nat → List V))
  tp : ∀ t f, T = some (t, f) → P0 t
  tw : ∀ t f, T = some (t, f) → f = TownS.town
def Bs.isT (B : Bs) (a : Addr) : Prop := ∃ f, B.T = some (a, f)
def hid (B : Bs) (own : Nat → Option Addr) (a : Addr) : Prop := B.P0 a ∨ ∃ i, own i = some a
/-- a dict of the frame's own -/
def DcR (K : PySem.W.Frag) (H G : Hp) (a : Addr) (t : Bool) (kvs : List (D × D)) : Prop :=
  (t = false ∧ ∃ (ks : List (Key × V)) (ds : List D), H a = some (.dK ks) ∧ ks.length ≤ sizeLine ∧ (∀ k ∈ ks, kOk k.1) ∧ (ks.map (·.1)).Nodup ∧ Rps K G (ks.map (·.2)) ds ∧ kvs = (ks.map fun k => kD k.1).zip ds) ∨
  (t = true ∧ ∃ (ks : List (List Key × V)) (ds : List D), H a = some (.dT ks) ∧ ks.length ≤ sizeLine ∧ (∀ k ∈ ks, k.1.length = 2 ∧ ∀ q ∈ k.1, kOk q) ∧ (ks.map (·.1)).Nodup ∧ Rps K G (ks.map (·.2)) ds ∧ kvs = (ks.map fun k => PyData.tuple (k.1.map kD)).zip ds)
def OwnL (K : PySem.W.Frag) (H G : Hp) (a : Addr) (l : List D) : Prop := ∃ vs, H a = some (.lst vs) ∧ vs.length ≤ sizeLine ∧ Rps K G vs l
def SVR (K : PySem.W.Frag) (B : Bs) (own : Nat → Option Addr) (H : Hp) (i : Nat) (v : V) : SV → Prop
  | .d x => Rp K (Hd H (hid B own)) v x
  | .own l => ∃ a, own i = some a ∧ v = .ref a ∧ OwnL K H (Hd H (hid B own)) a l
  | .ownd t kvs => ∃ a, own i = some a ∧ v = .ref a ∧ DcR K H (Hd H (hid B own)) a t kvs
  | .town => ∃ a, B.isT a ∧ v = .ref a
  | .scr => Rp K (Hd H (hid B own)) v TownS.scr
def isOwn : SV → Bool
  | .own _ => true
  | .ownd _ _ => true
  | _ => false
structure ER (K : PySem.W.Frag) (B : Bs) (own : Nat → Option Addr) (ρ : Rho) (k : Nat) (σ : L2.St) (H : Hp) : Prop where
  len : ρ.length = σ.length
  inj : ∀ i j a, own i = some a → own j = some a → i = j
  dom0 : ∀ a, B.P0 a → H a ≠ none
  np : ∀ i a, own i = some a → ¬ B.P0 a
  kind : ∀ i a, own i = some a → ∃ sv, ρ[i]? = some (some sv) ∧ isOwn sv = true
  new : ∀ i a, own i = some a → B.H0 a = none ∧ ∃ o, H a = some o ∧ ∀ xs, o ≠ .tup xs ∧ ∀ ob u, o ≠ .frz ob u
  base : ∀ b o, B.H0 b = some o → ¬ B.isT b → H b = some o
  town : ∀ t f, B.T = some (t, f) → H t = some (.lst (f k))
  slot : ∀ i sv, ρ[i]? = some (some sv) → ∃ v, σ[i]? = some (some v) ∧ SVR K B own H i v sv
/-- from H to H' all is kept but the row of draws -/
def Stp (B : Bs) (H H' : Hp) : Prop := ∀ b o, H b = some o → ¬ B.isT b → H' b = some o
theorem Stp.refl {B : Bs} {H : Hp} : Stp B H H := fun _ _ e _ => e
theorem Stp.trans {B : Bs} {H H1 H2 : Hp} (a : Stp B H H1) (b : Stp B H1 H2) : Stp B H H2 := fun c o e n => b c o (a c o e n) n
theorem Stp.same {B : Bs} {H H' : Hp} (h : Same H H') : Stp B H H' := fun b o e _ => h b o e
section
variable {K : PySem.W.Frag} {B : Bs} {own : Nat → Option Addr} {ρ : Rho} {k k' : Nat} {σ : L2.St} {H H' : Hp}
theorem ER.dom (r : ER K B own ρ k σ H) {a : Addr} (h : hid B own a) : H a ≠ none := by
  rcases h with h | ⟨i, h⟩
  · exact r.dom0 a h
  · obtain ⟨_, o, e, _⟩ := r.new i a h
    rw [e]
    simp
theorem isT_hid {a : Addr} (h : B.isT a) : hid B own a := by
  obtain ⟨f, hf⟩ := h
  exact .inl (B.tp a f hf)
theorem Stp.hd (s : Stp B H H') : ∀ a o, Hd H (hid B own) a = some o → Hd H' (hid B own) a = some o := fun a o e =>
  Hd.at (Hd.np e) (s a o (Hd.le a o e) fun t => Hd.np e (isT_hid t))
theorem Stp.hd0 (s : Stp B H H') : ∀ a o, Hd H B.P0 a = some o → Hd H' B.P0 a = some o := fun a o e =>
  Hd.at (Hd.np e) (s a o (Hd.le a o e) fun ⟨f, hf⟩ => Hd.np e (B.tp a f hf))
theorem OwnL.step {G G' : Hp} {a : Addr} {l : List D} (h : ∀ o, H a = some o → H' a = some o) (hg : ∀ a o, G a = some o → G' a = some o) (r : OwnL K H G a l) : OwnL K H' G' a l := by
  obtain ⟨vs, e, n, q⟩ := r
  exact ⟨vs, h _ e, n, q.mono hg⟩
theorem DcR.step {G G' : Hp} {a : Addr} {t : Bool} {l : List (D × D)} (h : ∀ o, H a = some o → H' a = some o) (hg : ∀ a o, G a = some o → G' a = some o) (r : DcR K H G a t l) : DcR K H' G' a t l := by
  rcases r with ⟨e, ks, ds, h1, hz, h2, h3, h4, h5⟩ | ⟨e, ks, ds, h1, hz, h2, h3, h4, h5⟩
  · exact .inl ⟨e, ks, ds, h _ h1, hz, h2, h3, h4.mono hg, h5⟩
  · exact .inr ⟨e, ks, ds, h _ h1, hz, h2, h3, h4.mono hg, h5⟩
theorem ER.notT (r : ER K B own ρ k σ H) {i : Nat} {a : Addr} (h : own i = some a) : ¬ B.isT a := fun ⟨f, hf⟩ => r.np i a h (B.tp a f hf)
theorem SVR.step (r : ER K B own ρ k σ H) (s : Stp B H H') {i : Nat} {v : V} {sv : SV} (q : SVR K B own H i v sv) : SVR K B own H' i v sv := by
  cases sv with
  | d x => exact Rp.mono s.hd q
  | own l =>
    obtain ⟨a, h1, h2, h3⟩ := q
    exact ⟨a, h1, h2, h3.step (fun o e => s a o e (r.notT h1)) s.hd⟩
  | ownd t l =>
    obtain ⟨a, h1, h2, h3⟩ := q
    exact ⟨a, h1, h2, h3.step (fun o e => s a o e (r.notT h1)) s.hd⟩
  | town => exact q
  | scr => exact Rp.mono s.hd q
theorem ER.step (r : ER K B own ρ k σ H) (s : Stp B H H') (t : ∀ t f, B.T = some (t, f) → H' t = some (.lst (f k'))) : ER K B own ρ k' σ H' where
  len := r.len
  inj := r.inj
  dom0 := fun a h => by
    by_cases ht : B.isT a
    · obtain ⟨f, hf⟩ := ht
      rw [t a f hf]
      simp
    · cases e : H a with
      | none => exact absurd e (r.dom0 a h)
      | some o =>
        rw [s a o e ht]
        simp
  np := r.np
  kind := r.kind
  new := fun i a h => by
    obtain ⟨h1, o, h2, h3⟩ := r.new i a h
    exact ⟨h1, o, s a o h2 (r.notT h), h3⟩
  base := fun b o e n => s b o (r.base b o e n) n
  town := t
  slot := fun i sv e => by
    obtain ⟨v, h1, h2⟩ := r.slot i sv e
    exact ⟨v, h1, SVR.step r s h2⟩
theorem ER.same (r : ER K B own ρ k σ H) (s : Same H H') : ER K B own ρ k σ H' := r.step (Stp.same s) fun t f e => s _ _ (r.town t f e)
theorem same_new {p : Addr} {o : HO} (h : H p = none) : Same H (upd H p o) := fun b x e => by
  rw [upd_ne (ne_of_none e h)]
  exact e
theorem ER.alloc (r : ER K B own ρ k σ H) {p : Addr} {o : HO} (h : H p = none) : ER K B own ρ k σ (upd H p o) := r.same (same_new h)
end

/-! ### what an expression leaves -/
/-- a list, a dict of one's own at a, its contents over G -/
def OwnV (K : PySem.W.Frag) (H G : Hp) (a : Addr) (d : D) : Prop :=
  (∃ l, d = .list l ∧ OwnL K H G a l) ∨ ∃ l, d = .dict l ∧ DcR K H G a (kindD l) l
def RV (K : PySem.W.Frag) (B : Bs) (own : Nat → Option Addr) (H H' : Hp) (kd : Kd) (v : V) (d : D) : Prop :=
  match kd with
  | .pl => Rp K (Hd H' (hid B own)) v d
  | .tr => Rp K (Hd H' (hid B own)) v d ∨ ∃ i a, own i = some a ∧ v = .ref a ∧ OwnV K H' (Hd H' (hid B own)) a d
  | .fr => ∃ p, v = .ref p ∧ H p = none ∧ ¬ hid B own p ∧ OwnV K H' (Hd H' (fun a => hid B own a ∨ a = p)) p d
end Y

namespace Y
open PySem PySem.W PySem.Spec PyProof.Rows L2
variable [TownS]

section
variable {K : PySem.W.Frag} {B : Bs} {own : Nat → Option Addr} {ρ : Rho} {k k' : Nat} {σ : L2.St} {H H1 H' G : Hp} {v : V} {d : D} {kd : Kd} {a : Addr}

theorem DcR.rp {l : List (D × D)} (hH : ∀ o, H a = some o → H' a = some o) (hg : ∀ b o, G b = some o → H' b = some o) (r : DcR K H G a (kindD l) l) : Rp K H' (.ref a) (.dict l) := by
  rcases r with ⟨e, ks, ds, h1, hz, h2, h3, h4, rfl⟩ | ⟨e, ks, ds, h1, hz, h2, h3, h4, rfl⟩
  · exact .dK (hH _ h1) hz h2 h3 (h4.mono hg)
  · refine .dT (hH _ h1) hz ?_ h2 h3 (h4.mono hg)
    intro z
    subst z
    simp [kindD] at e
theorem OwnV.rp (hH : ∀ o, H a = some o → H' a = some o) (hg : ∀ b o, G b = some o → H' b = some o) (r : OwnV K H G a d) : Rp K H' (.ref a) d := by
  rcases r with ⟨l, rfl, vs, e, n, q⟩ | ⟨l, rfl, q⟩
  · exact .lst (SqL.of (hH _ e)) n (q.mono hg)
  · exact q.rp hH hg
/-- whatever kind: away from what is kept apart from all data -/
theorem RV.weak (r : ER K B own ρ k σ H') (q : RV K B own H H' kd v d) : Rp K (Hd H' B.P0) v d := by
  have lt : ∀ a o, Hd H' (hid B own) a = some o → Hd H' B.P0 a = some o := Hd.less fun a h => .inl h
  have own_at : ∀ {i a o}, own i = some a → H' a = some o → Hd H' B.P0 a = some o := fun {i a o} h e => Hd.at (r.np i a h) e
  cases kd with
  | pl => exact Rp.mono lt q
  | tr =>
    rcases q with q | ⟨i, a, h, rfl, q⟩
    · exact Rp.mono lt q
    · exact q.rp (fun o e => own_at h e) lt
  | fr =>
    obtain ⟨p, rfl, hp, np, q⟩ := q
    exact q.rp (fun o e => Hd.at (fun z => np (.inl z)) e) (Hd.less fun a h => .inl (.inl h))
theorem RV.all (r : ER K B own ρ k σ H') (q : RV K B own H H' kd v d) : Rp K H' v d := (q.weak r).mono Hd.le
/-- a new thing is a datum -/
theorem RV.plain (q : RV K B own H H' kd v d) (h : kd ≠ .tr) : Rp K (Hd H' (hid B own)) v d := by
  cases kd with
  | pl => exact q
  | tr => exact absurd rfl h
  | fr =>
    obtain ⟨p, rfl, hp, np, q⟩ := q
    exact q.rp (fun o e => Hd.at np e) (Hd.less fun a h => .inl h)
theorem RV.of_pl (q : Rp K (Hd H' (hid B own)) v d) (h : kd ≠ .fr) : RV K B own H H' kd v d := by
  cases kd with
  | pl => exact q
  | tr => exact .inl q
  | fr => exact absurd rfl h
/-- a list's items are data -/
theorem RV.list {l : List D} (q : RV K B own H H' kd v (.list l)) : ∃ a vs, v = .ref a ∧ SqL K H' a vs ∧ vs.length ≤ sizeLine ∧ Rps K (Hd H' (hid B own)) vs l := by
  have pl : Rp K (Hd H' (hid B own)) v (.list l) → ∃ a vs, v = .ref a ∧ SqL K H' a vs ∧ vs.length ≤ sizeLine ∧ Rps K (Hd H' (hid B own)) vs l := fun q => by
    cases q with
    | lst h1 h2 h3 => exact ⟨_, _, rfl, SqL.same Hd.le h1, h2, h3⟩
  have ow : ∀ {G a}, (∀ b o, G b = some o → Hd H' (hid B own) b = some o) → v = .ref a → OwnV K H' G a (.list l) → ∃ a vs, v = .ref a ∧ SqL K H' a vs ∧ vs.length ≤ sizeLine ∧ Rps K (Hd H' (hid B own)) vs l := fun {G a} hg e q => by
    rcases q with ⟨l', e', vs, h1, h2, h3⟩ | ⟨l', e', _⟩
    · cases e'
      exact ⟨a, vs, e, SqL.of h1, h2, h3.mono hg⟩
    · cases e'
  cases kd with
  | pl => exact pl q
  | tr =>
    rcases q with q | ⟨i, a, h, e, q⟩
    · exact pl q
    · exact ow (fun _ _ z => z) e q
  | fr =>
    obtain ⟨p, e, hp, np, q⟩ := q
    exact ow (Hd.less fun a h => .inl h) e q
theorem RV.tup {l : List D} (q : RV K B own H H' kd v (.tuple l)) : ∃ a vs, v = .ref a ∧ SqT K H' a vs ∧ vs.length ≤ sizeLine ∧ Rps K (Hd H' (hid B own)) vs l ∧ Rp K (Hd H' (hid B own)) v (.tuple l) := by
  have pl : Rp K (Hd H' (hid B own)) v (.tuple l) → ∃ a vs, v = .ref a ∧ SqT K H' a vs ∧ vs.length ≤ sizeLine ∧ Rps K (Hd H' (hid B own)) vs l ∧ Rp K (Hd H' (hid B own)) v (.tuple l) := fun q => by
    cases q with
    | tup h1 h2 h4 h3 => exact ⟨_, _, rfl, SqT.same Hd.le h1, h2, h3, .tup h1 h2 h4 h3⟩
  cases kd with
  | pl => exact pl q
  | tr =>
    rcases q with q | ⟨i, a, h, e, ⟨_, e', _⟩ | ⟨_, e', _⟩⟩
    · exact pl q
    · cases e'
    · cases e'
  | fr =>
    obtain ⟨p, e, hp, np, ⟨_, e', _⟩ | ⟨_, e', _⟩⟩ := q
    · cases e'
    · cases e'
/-- a dict -/
theorem RV.dict {l : List (D × D)} (q : RV K B own H H' kd v (.dict l)) : ∃ a, v = .ref a ∧ DcR K H' (Hd H' (hid B own)) a (kindD l) l := by
  have pl : Rp K (Hd H' (hid B own)) v (.dict l) → ∃ a, v = .ref a ∧ DcR K H' (Hd H' (hid B own)) a (kindD l) l := fun q => by
    cases q with
    | @dK a ks ds h1 h2 h3 h4 h5 =>
      refine ⟨_, rfl, .inl ⟨?_, _, _, Hd.le _ _ h1, h2, h3, h4, h5, rfl⟩⟩
      cases ks with
      | nil => rfl
      | cons x r =>
        cases ds with
        | nil => rfl
        | cons y r' =>
          obtain ⟨key, _⟩ := x
          cases key <;> rfl
    | @dT a ks ds h1 h2 h3 h4 h5 h6 =>
      refine ⟨_, rfl, .inr ⟨?_, _, _, Hd.le _ _ h1, h2, h4, h5, h6, rfl⟩⟩
      cases ks with
      | nil => exact absurd rfl h3
      | cons x r =>
        cases h6 with
        | cons _ _ => rfl
  have ow : ∀ {G a}, (∀ b o, G b = some o → Hd H' (hid B own) b = some o) → v = .ref a → OwnV K H' G a (.dict l) → ∃ a, v = .ref a ∧ DcR K H' (Hd H' (hid B own)) a (kindD l) l := fun {G a} hg e q => by
    rcases q with ⟨l', e', _⟩ | ⟨l', e', q⟩
    · cases e'
    · cases e'
      exact ⟨a, e, q.step (fun o h => h) hg⟩
  cases kd with
  | pl => exact pl q
  | tr =>
    rcases q with q | ⟨i, a, h, e, q⟩
    · exact pl q
    · exact ow (fun _ _ z => z) e q
  | fr =>
    obtain ⟨p, e, hp, np, q⟩ := q
    exact ow (Hd.less fun a h => .inl h) e q
/-- numbers, truths, texts, None -/
theorem Rp.int_inv {i : Int} (q : Rp K H v (.int i)) : v = .int i := by cases q; rfl
theorem Rp.bool_inv {i : Bool} (q : Rp K H v (.bool i)) : v = .bl i := by cases q; rfl
theorem Rp.none_inv (q : Rp K H v .none) : v = .non := by cases q; rfl
theorem Rp.str_inv {x : Str} (q : Rp K H v (.str x)) : v = .str x ∧ strOk x := by cases q; exact ⟨rfl, by assumption⟩
/-- later on, the same -/
theorem RV.later (r : ER K B own ρ k σ H1) (s : Stp B H1 H') (q : RV K B own H H1 kd v d) : RV K B own H H' kd v d := by
  have own_at : ∀ {i a o}, own i = some a → H1 a = some o → H' a = some o := fun {i a o} h e => s a o e (r.notT h)
  have ov : ∀ {G G' : Hp} {a}, (∀ o, H1 a = some o → H' a = some o) → (∀ b o, G b = some o → G' b = some o) → OwnV K H1 G a d → OwnV K H' G' a d := fun {G G' a} h1 h2 q => by
    rcases q with ⟨l, e, q⟩ | ⟨l, e, q⟩
    · exact .inl ⟨l, e, q.step h1 h2⟩
    · exact .inr ⟨l, e, q.step h1 h2⟩
  cases kd with
  | pl => exact Rp.mono s.hd q
  | tr =>
    rcases q with q | ⟨i, a, h, e, q⟩
    · exact .inl (Rp.mono s.hd q)
    · exact .inr ⟨i, a, h, e, ov (fun o => own_at h) s.hd q⟩
  | fr =>
    obtain ⟨p, e, hp, np, q⟩ := q
    exact ⟨p, e, hp, np, ov (fun o e => s p o e fun t => np (isT_hid t)) (fun a o e => Hd.at (Hd.np e) (s a o (Hd.le a o e) fun t => Hd.np e (.inl (isT_hid t)))) q⟩
/-- counted from an earlier heap -/
theorem RV.from (s : Stp B H H1) (r : ER K B own ρ k σ H) (r1 : ER K B own ρ k' σ H1) (q : RV K B own H1 H' kd v d) : RV K B own H H' kd v d := by
  cases kd with
  | pl => exact q
  | tr => exact q
  | fr =>
    obtain ⟨p, e, hp, np, q⟩ := q
    refine ⟨p, e, ?_, np, q⟩
    cases z : H p with
    | none => rfl
    | some o =>
      have := s p o z fun t => np (isT_hid t)
      rw [hp] at this
      cases this
end
end Y

namespace Y
open PySem PySem.W PySem.Spec PyProof.Rows L2
variable [TownS]

section
variable {K : PySem.W.Frag} {B : Bs} {own : Nat → Option Addr} {ρ : Rho} {k k' : Nat} {σ : L2.St} {H H1 H' G : Hp} {v x y : V} {d e z : D} {kd kx ky : Kd} {a p : Addr} {Q : VK}

/-- what is wanted of a new datum -/
def Wn (K : PySem.W.Frag) (B : Bs) (own : Nat → Option Addr) (H : Hp) (d : D) (Q : VK) : Prop := ∀ v H', Same H H' → Rp K (Hd H' (hid B own)) v d → Q v H'
theorem same_hd {P : Addr → Prop} (s : Same H H') : ∀ a o, Hd H P a = some o → Hd H' P a = some o := fun a o e => Hd.at (Hd.np e) (s a o (Hd.le a o e))
theorem new_np (r : ER K B own ρ k σ H) (hp : H p = none) : ¬ hid B own p := fun h => r.dom h hp
theorem new_tup (r : ER K B own ρ k σ H) (hp : H p = none) {vs : List V} {ds : List D} (n : vs.length ≤ sizeLine) (q : Rps K (Hd H (hid B own)) vs ds) : Rp K (Hd (upd H p (.tup vs)) (hid B own)) (.ref p) (.tuple ds) :=
  .tup (SqT.of (Hd.at (new_np r hp) upd_same)) n (fun _ => Hd.at (new_np r hp) upd_same) (q.mono (same_hd (same_new hp)))
theorem new_lst (r : ER K B own ρ k σ H) (hp : H p = none) {vs : List V} {ds : List D} (n : vs.length ≤ sizeLine) (q : Rps K (Hd H (hid B own)) vs ds) : Rp K (Hd (upd H p (.lst vs)) (hid B own)) (.ref p) (.list ds) :=
  .lst (SqL.of (Hd.at (new_np r hp) upd_same)) n (q.mono (same_hd (same_new hp)))
theorem new_fr (r : ER K B own ρ k σ H) (hp : H p = none) {vs : List V} {ds : List D} (n : vs.length ≤ sizeLine) (q : Rps K (Hd H (hid B own)) vs ds) : RV K B own H (upd H p (.lst vs)) .fr (.ref p) (.list ds) := by
  refine ⟨p, rfl, hp, new_np r hp, .inl ⟨ds, rfl, vs, upd_same, n, q.mono fun a o e => ?_⟩⟩
  have e1 := Hd.le a o e
  have ne : a ≠ p := fun z => by rw [z, hp] at e1; cases e1
  refine Hd.at ?_ (by rw [upd_ne ne]; exact e1)
  rintro (h | h)
  · exact Hd.np e h
  · exact ne h
theorem lim_le {n : Nat} (h : lim n = true) : n ≤ sizeLine := by
  unfold lim at h
  rw [sizeLine_eq]
  exact of_decide_eq_true h
theorem Rps.len {vs : List V} {ds : List D} (q : Rps K G vs ds) (h : lim ds.length = true) : vs.length ≤ sizeLine := by
  rw [q.length]
  exact lim_le h

/-! ### + of lists that are read -/
def rCatL (K : PySem.W.Frag) : R2 := fun x y H Q => ∃ l b xs zs, x = .ref l ∧ y = .ref b ∧ SqL K H l xs ∧ SqL K H b zs ∧ xs.length + zs.length ≤ sizeLine ∧ ∀ p, H p = none → Q (.ref p) (upd H p (.lst (xs ++ zs)))
theorem op_catL {X : Cx} : OpR X (binaryOp .Add) (rCatL X.K) := by
  intro pins s σ H x y v u Q I rx ry h
  obtain ⟨l, b, xs, zs, rfl, rfl, hH, hB, hz, q⟩ := h
  cases rx
  cases ry
  obtain ⟨its, r, ⟨⟨c1, d1, da1, sl1⟩, n, e, hc, hd, hda⟩, hl⟩ := I.list hH
  obtain ⟨its2, r2, ⟨⟨c2, d2, da2, sl2⟩, n2, e2, hc2, hd2, hda2⟩, hl2⟩ := I.list hB
  simp only at hc hd hda hc2 hd2 hda2
  subst hc hd hda hc2 hd2 hda2
  have h1 := r.length
  have h2 := r2.length
  refine concat_meets ⟨_, e, rfl⟩ ⟨_, e2, rfl⟩ noFill_list_add seq_list_add PySem.F.slot_list_add PySem.F.entry_list_add (PySem.F.args_list_add_2 _ _) (list_addW l b its.toArray its2.toArray n n2 none none sl1 sl2 (by rw [List.size_toArray, List.size_toArray]; omega)) ⟨e, e2, ?_⟩
  have ea : its.toArray ++ its2.toArray = (its ++ its2).toArray := by simp
  rw [ea]
  exact ⟨.ref _, _, I.lnew (t' := s.toks) (r.append r2) (by rw [List.length_append]; omega), rfl, q _ I.fresh⟩
end

/-! ### + - * // % -/
def binOp : Bin → Operator
  | .add => .Add
  | .sub => .Sub
  | .mul => .Mult
  | .fdiv => .FloorDiv
  | .mod => .Mod
def rCatS : R2 := fun x y H Q => ∃ i j, x = V.str i ∧ y = V.str j ∧ i.length + j.length ≤ sizeLine ∧ Q (.str (i ++ j)) H
def rBin (K : PySem.W.Frag) : Bin → R2
  | .add => fun x y H Q => rI0 (fun i j => .int (i + j)) x y H Q ∨ rCatS x y H Q ∨ rCatA K x y H Q ∨ rCatL K x y H Q
  | .sub => rI0 fun i j => .int (i - j)
  | .mul => rI CMul fun i j => .int (i * j)
  | .fdiv => rI CDiv fun i j => .int (i / j)
  | .mod => rI (fun _ j => 0 < j) fun i j => .int (i % j)
theorem op_bin {X : Cx} (o : Bin) : OpR X (binaryOp (binOp o)) (rBin X.K o) := by
  cases o with
  | add => exact OpR.or op_add (OpR.or op_add_str (OpR.or op_catA op_catL))
  | sub => exact op_sub
  | mul => exact op_mul
  | fdiv => exact op_fdiv
  | mod => exact op_mod
theorem strOk_append {x y : Str} (hx : strOk x) (hy : strOk y) (h : lim (x.length + y.length) = true) : strOk (x ++ y) := by
  refine ⟨?_, ?_⟩
  · have h1 := hx.1
    have h2 := hy.1
    unfold PySem.PyData.strOk at h1 h2 ⊢
    show (x.cps ++ y.cps).all _ = true
    rw [Array.all_append, h1, h2]
    rfl
  · have : (x ++ y).length = x.length + y.length := Array.size_append ..
    rw [this]
    exact lim_le h
section
variable {K : PySem.W.Frag} {B : Bs} {own : Nat → Option Addr} {ρ : Rho} {k k' : Nat} {σ : L2.St} {H Hx Hy H1 H' G : Hp} {v x y : V} {d e z : D} {kd kx ky : Kd} {a p : Addr} {Q : VK}
theorem Wn.here (w : Wn K B own H z Q) (q : Rp K (Hd H (hid B own)) v z) : Q v H := w v H (Same.refl H) q
theorem Wn.int {i : Int} (w : Wn K B own H (.int i) Q) : Q (.int i) H := w.here (.int i)
theorem Wn.bool {i : Bool} (w : Wn K B own H (.bool i) Q) : Q (.bl i) H := w.here (.bl i)
theorem Wn.tup (r : ER K B own ρ k σ H) {vs : List V} {ds : List D} (w : Wn K B own H (.tuple ds) Q) (hp : H p = none) (n : vs.length ≤ sizeLine) (q : Rps K (Hd H (hid B own)) vs ds) : Q (.ref p) (upd H p (.tup vs)) :=
  w _ _ (same_new hp) (new_tup r hp n q)
theorem Wn.lst (r : ER K B own ρ k σ H) {vs : List V} {ds : List D} (w : Wn K B own H (.list ds) Q) (hp : H p = none) (n : vs.length ≤ sizeLine) (q : Rps K (Hd H (hid B own)) vs ds) : Q (.ref p) (upd H p (.lst vs)) :=
  w _ _ (same_new hp) (new_lst r hp n q)
theorem small64_ok {i : Int} (h : small64 i = true) : -(2 ^ 64) < i ∧ i < 2 ^ 64 := of_decide_eq_true h
theorem rBin_of (r : ER K B own ρ k σ H) {o : Bin} (qx : RV K B own Hx H kx x d) (qy : RV K B own Hy H ky y e) (h : binD o d e = some z) (w : Wn K B own H z Q) : rBin K o x y H Q := by
  have ix : ∀ {i}, d = .int i → x = .int i := fun e => by subst e; exact (qx.weak r).int_inv
  have iy : ∀ {i}, e = .int i → y = .int i := fun e => by subst e; exact (qy.weak r).int_inv
  unfold binD at h
  split at h
  · cases h
    exact .inl ⟨_, _, ix rfl, iy rfl, w.int⟩
  · rename_i a b
    split at h
    · rename_i hl
      cases h
      have h1 := (qx.weak r).str_inv
      have h2 := (qy.weak r).str_inv
      exact .inr (.inl ⟨_, _, h1.1, h2.1, lim_le hl, w.here (.str _ (strOk_append h1.2 h2.2 hl))⟩)
    · cases h
  · rename_i a b
    split at h
    · rename_i hl
      cases h
      obtain ⟨p, vs, e1, s1, n1, t1, u1⟩ := qx.tup
      obtain ⟨q, ws, e2, s2, n2, t2, u2⟩ := qy.tup
      have l1 := t1.length
      have l2 := t2.length
      have hl := lim_le hl
      refine .inr (.inr (.inl ⟨p, q, vs, ws, e1, e2, s1, s2, by omega, fun z => ?_, fun z1 z2 => ?_, fun z1 z2 g hg => ?_⟩))
      · subst z
        have : a = [] := List.eq_nil_of_length_eq_zero (by simpa using l1.symm)
        subst this
        rw [e2] at u2
        exact w.here u2
      · subst z2
        have : b = [] := List.eq_nil_of_length_eq_zero (by simpa using l2.symm)
        subst this
        rw [List.append_nil] at w
        rw [e1] at u1
        exact w.here u1
      · exact w.tup r hg (by rw [List.length_append]; omega) (t1.append t2)
    · cases h
  · rename_i a b
    split at h
    · rename_i hl
      cases h
      obtain ⟨p, vs, e1, s1, n1, t1⟩ := qx.list
      obtain ⟨q, ws, e2, s2, n2, t2⟩ := qy.list
      have l1 := t1.length
      have l2 := t2.length
      have hl := lim_le hl
      exact .inr (.inr (.inr ⟨p, q, vs, ws, e1, e2, s1, s2, by omega, fun g hg => w.lst r hg (by rw [List.length_append]; omega) (t1.append t2)⟩))
    · cases h
  · cases h
    exact ⟨_, _, ix rfl, iy rfl, w.int⟩
  · split at h
    · rename_i hm
      cases h
      rw [Bool.or_eq_true] at hm
      exact ⟨_, _, ix rfl, iy rfl, hm.elim (fun q => .inl (small64_ok q)) (fun q => .inr (small64_ok q)), w.int⟩
    · cases h
  · split at h
    · rename_i hm
      cases h
      have hm' := of_decide_eq_true hm
      exact ⟨_, _, ix rfl, iy rfl, hm', w.int⟩
    · cases h
  · split at h
    · rename_i hm
      cases h
      exact ⟨_, _, ix rfl, iy rfl, of_decide_eq_true hm, w.int⟩
    · cases h
  · cases h

/-! ### truth -/
theorem truV_of (r : ER K B own ρ k σ H) {b : Bool} (qx : RV K B own Hx H kx x d) (h : truD d = some b) : TruV K x H b := by
  cases d with
  | none => rw [(qx.weak r).none_inv]; cases h; rfl
  | bool c => rw [(qx.weak r).bool_inv]; cases h; rfl
  | int c => rw [(qx.weak r).int_inv]; cases h; rfl
  | str c =>
    have q := (qx.weak r).str_inv
    rw [q.1]; cases h; exact ⟨q.2.2, rfl⟩
  | list l =>
    obtain ⟨a, vs, rfl, s1, n1, t1⟩ := qx.list
    cases h
    refine .inl ⟨vs, s1, ?_⟩
    cases t1 <;> rfl
  | tuple l =>
    obtain ⟨a, vs, rfl, s1, n1, t1, _⟩ := qx.tup
    cases h
    refine .inr (.inl ⟨vs, s1, ?_⟩)
    cases t1 <;> rfl
  | dict l =>
    obtain ⟨a, rfl, q⟩ := qx.dict
    have hk : kindD l = false := by
      cases e : kindD l with
      | false => rfl
      | true => simp [truD, e] at h
    simp only [truD, hk] at h
    rcases q with ⟨_, ks, ds, h1, hz, h2, h3, h4, rfl⟩ | ⟨z, _⟩
    · cases h
      refine .inr (.inr ⟨ks, h1, ?_⟩)
      cases ks with
      | nil => rfl
      | cons p r =>
        cases h4
        rfl
    · rw [hk] at z; cases z
end

/-! ### dicts -/
theorem kD_inj {a b : Key} : PyData.eqv (kD a) (kD b) = decide (a = b) := by
  cases a <;> cases b <;> simp [kD, PyData.eqv]
  · rename_i i j
    by_cases h : i = j <;> simp [h]
  · rename_i i j
    by_cases h : i = j <;> simp [h]
theorem eqvAll_kD : ∀ {a b : List Key}, PyData.eqvAll (a.map kD) (b.map kD) = decide (a = b)
  | [], [] => by simp [PyData.eqvAll]
  | [], _ :: _ => by simp [PyData.eqvAll]
  | _ :: _, [] => by simp [PyData.eqvAll]
  | x :: a, y :: b => by
    simp only [List.map_cons, PyData.eqvAll, kD_inj, eqvAll_kD (a := a) (b := b)]
    by_cases h : x = y <;> by_cases h' : a = b <;> simp [h, h']
section
variable {K : PySem.W.Frag} {G : Hp}
theorem dget_val {κ : Type} [DecidableEq κ] {f : κ → D} (hf : ∀ a b, PyData.eqv (f a) (f b) = decide (a = b)) (k : κ) : ∀ {ks : List (κ × V)} {ds : List D}, Rps K G (ks.map (·.2)) ds →
    (∃ v d, valV ks k = some v ∧ dget ((ks.map fun q => f q.1).zip ds) (f k) = some d ∧ Rp K G v d) ∨ (valV ks k = none ∧ dget ((ks.map fun q => f q.1).zip ds) (f k) = none)
  | [], _, .nil => .inr ⟨rfl, rfl⟩
  | q :: ks, d :: ds, .cons r t => by
    by_cases e : q.1 = k
    · refine .inl ⟨q.2, d, valV_pos e, ?_, r⟩
      unfold dget
      rw [List.map_cons, List.zip_cons_cons, List.find?_cons_of_pos (by rw [hf, decide_eq_true e])]
      rfl
    · have ih := dget_val hf k t
      have e2 : dget (((q :: ks).map fun q => f q.1).zip (d :: ds)) (f k) = dget ((ks.map fun q => f q.1).zip ds) (f k) := by
        unfold dget
        rw [List.map_cons, List.zip_cons_cons, List.find?_cons_of_neg (by rw [hf, decide_eq_false e]; exact Bool.false_ne_true)]
      rw [e2, valV_neg e]
      exact ih
end
/-- a key of the right make -/
theorem keyK_inv {K : PySem.W.Frag} {H : Hp} {v : V} {d : D} (q : Rp K H v d) (h : keyK d = true) : ∃ k : Key, v = kV k ∧ d = kD k ∧ kOk k := by
  cases q with
  | int i => exact ⟨.inl i, rfl, rfl, trivial⟩
  | str x s => exact ⟨.inr x, rfl, rfl, s⟩
  | non => simp [keyK] at h
  | bl b => simp [keyK] at h
  | lst _ _ _ => simp [keyK] at h
  | tup _ _ _ _ => simp [keyK] at h
  | dK _ _ _ _ _ => simp [keyK] at h
  | dT _ _ _ _ _ _ => simp [keyK] at h
theorem keyT_inv {K : PySem.W.Frag} {H : Hp} {v : V} {d : D} (q : Rp K H v d) (h : keyOk true d = true) : ∃ (b : Addr) (k : List Key), v = .ref b ∧ H b = some (.tup (k.map kV)) ∧ d = .tuple (k.map kD) ∧ k.length = 2 ∧ ∀ q ∈ k, kOk q := by
  cases q with
  | @tup a xs ds h1 h2 h3 h4 =>
    cases h4 with
    | nil => simp [keyOk] at h
    | cons q1 t1 =>
      cases t1 with
      | nil => simp [keyOk] at h
      | cons q2 t2 =>
        cases t2 with
        | nil =>
          simp only [keyOk, Bool.and_eq_true] at h
          obtain ⟨k1, rfl, rfl, o1⟩ := keyK_inv q1 h.1
          obtain ⟨k2, rfl, rfl, o2⟩ := keyK_inv q2 h.2
          refine ⟨a, [k1, k2], rfl, h3 rfl, rfl, rfl, fun q hq => ?_⟩
          rcases List.mem_cons.mp hq with rfl | hq
          · exact o1
          · rcases List.mem_cons.mp hq with rfl | hq
            · exact o2
            · cases hq
        | cons _ _ => simp [keyOk] at h
  | int i => simp [keyOk] at h
  | str x s => simp [keyOk] at h
  | non => simp [keyOk] at h
  | bl b => simp [keyOk] at h
  | lst _ _ _ => simp [keyOk] at h
  | dK _ _ _ _ _ => simp [keyOk] at h
  | dT _ _ _ _ _ _ => simp [keyOk] at h
section
variable {K : PySem.W.Frag} {B : Bs} {own : Nat → Option Addr} {ρ : Rho} {k k' : Nat} {σ : L2.St} {H Hx Hy H1 H' G : Hp} {v x y : V} {d e z : D} {kd kx ky : Kd} {a p : Addr} {Q : VK}
/-- a look-up -/
theorem DcR.get {l : List (D × D)} {P : Addr → Prop} {t : Bool} (q : DcR K H G a t l) (qy : Rp K (Hd H P) y e) (h : keyOk t e = true) :
    (∃ v d, DGet H a y (some v) ∧ dget l e = some d ∧ Rp K G v d) ∨ (DGet H a y none ∧ dget l e = none) := by
  rcases q with ⟨rfl, ks, ds, h1, hz, h2, h3, h4, rfl⟩ | ⟨rfl, ks, ds, h1, hz, h2, h3, h4, rfl⟩
  · obtain ⟨key, rfl, rfl, _⟩ := keyK_inv qy h
    rcases dget_val (K := K) (G := G) (f := kD) (fun a b => kD_inj) key h4 with ⟨v, d, e1, e2, e3⟩ | ⟨e1, e2⟩
    · exact .inl ⟨v, d, by rw [← e1]; exact .k h1, e2, e3⟩
    · exact .inr ⟨by rw [← e1]; exact .k h1, e2⟩
  · obtain ⟨b, key, rfl, hb, rfl, _, _⟩ := keyT_inv qy h
    have hf : ∀ a b : List Key, PyData.eqv (PyData.tuple (a.map kD)) (PyData.tuple (b.map kD)) = decide (a = b) := fun a b => by
      rw [PyData.eqv]; exact eqvAll_kD
    rcases dget_val (K := K) (G := G) (f := fun k : List Key => PyData.tuple (k.map kD)) hf key h4 with ⟨v, d, e1, e2, e3⟩ | ⟨e1, e2⟩
    · exact .inl ⟨v, d, by rw [← e1]; exact .t h1 (Hd.le _ _ hb), e2, e3⟩
    · exact .inr ⟨by rw [← e1]; exact .t h1 (Hd.le _ _ hb), e2⟩
end

/-! ### comparisons -/
def rInT (K : PySem.W.Frag) (neg : Bool) : R2 := fun x y H Q => ∃ d ds, Dp K H x d ∧ Dp K H y (.tuple ds) ∧ SeqAt.shaped d = true ∧ SeqAt.shaped (.tuple ds) = true ∧ Q (.bl (if neg then !(ds.any fun z => PyData.eqv z d) else ds.any fun z => PyData.eqv z d)) H
theorem op_inT {X : Cx} (hu : X.A.units + 65 < cLine) : OpR X (compareOp .In) (rInT X.K false) := by
  intro pins s σ H x y v u Q I rx ry h
  obtain ⟨d, ds, hd, he, sd, se, q⟩ := h
  obtain ⟨as, r1⟩ := Dp.reads I d x v hd rx
  obtain ⟨bs, r2⟩ := Dp.reads I (.tuple ds) y u he ry
  have cl : PyData.canLayAll0 ds = true := by
    have := SeqAt.canLay_of_shaped se
    simpa [PyData.canLay0] using this
  exact SeqAt.in_tuple_reads r2 r1 cl (SeqAt.canLay_of_shaped sd) (room_in_shaped sd hu) ⟨.bl _, H, I, rfl, q⟩
theorem op_ninT {X : Cx} (hu : X.A.units + 65 < cLine) : OpR X (compareOp .NotIn) (rInT X.K true) := by
  intro pins s σ H x y v u Q I rx ry h
  obtain ⟨d, ds, hd, he, sd, se, q⟩ := h
  obtain ⟨as, r1⟩ := Dp.reads I d x v hd rx
  obtain ⟨bs, r2⟩ := Dp.reads I (.tuple ds) y u he ry
  have cl : PyData.canLayAll0 ds = true := by
    have := SeqAt.canLay_of_shaped se
    simpa [PyData.canLay0] using this
  exact SeqAt.notIn_tuple_reads r2 r1 cl (SeqAt.canLay_of_shaped sd) (room_in_shaped sd hu) ⟨.bl _, H, I, rfl, q⟩
def rInK (neg : Bool) : R2 := fun x y H Q => ∃ a o, y = .ref a ∧ DGet H a x o ∧ Q (.bl (if neg then !o.isSome else o.isSome)) H
theorem op_inK {X : Cx} (hu : X.A.units + 1 < cLine) : OpR X (compareOp .In) (rInK false) := by
  intro pins s σ H x y v u Q I rx ry h
  obtain ⟨a, o, rfl, g, q⟩ := h
  cases ry
  exact d_in hu I g rx fun s3 I3 => ⟨.bl o.isSome, H, I3, rfl, q⟩
theorem op_ninK {X : Cx} (hu : X.A.units + 1 < cLine) : OpR X (compareOp .NotIn) (rInK true) := by
  intro pins s σ H x y v u Q I rx ry h
  obtain ⟨a, o, rfl, g, q⟩ := h
  cases ry
  exact d_notIn hu I g rx fun s3 I3 => ⟨.bl (!o.isSome), H, I3, rfl, q⟩
def rInS : R2 := fun x y H Q => ∃ i j, x = V.str i ∧ y = V.str j ∧ Q (.bl (!(Builtin.Str.occurrences j i 0 j.length 1).isEmpty)) H
def rNinS : R2 := fun x y H Q => ∃ i j, x = V.str i ∧ y = V.str j ∧ Q (.bl (!(!(Builtin.Str.occurrences j i 0 j.length 1).isEmpty))) H
def rOrdS (f : List Nat → List Nat → Bool) : R2 := fun x y H Q => ∃ i j, x = V.str i ∧ y = V.str j ∧ Q (.bl (f i.cps.toList j.cps.toList)) H
def rCmp (K : PySem.W.Frag) : CmpOp → R2
  | .Eq => rEqD K
  | .NotEq => rNeD K
  | .In => fun x y H Q => rInD K x y H Q ∨ rInT K false x y H Q ∨ rInK false x y H Q ∨ rInS x y H Q
  | .NotIn => fun x y H Q => rNotInD K x y H Q ∨ rInT K true x y H Q ∨ rInK true x y H Q ∨ rNinS x y H Q
  | .Is => fun x y H Q => y = .non ∧ Q (.bl (decide (x = .non))) H
  | .IsNot => fun x y H Q => y = .non ∧ Q (.bl (!decide (x = .non))) H
  | .Lt => fun x y H Q => rI0 (fun i j => .bl (decide (i < j))) x y H Q ∨ rOrdS (fun a b => decide (a < b)) x y H Q
  | .LtE => fun x y H Q => rI0 (fun i j => .bl (decide (i ≤ j))) x y H Q ∨ rOrdS (fun a b => !decide (b < a)) x y H Q
  | .Gt => fun x y H Q => rI0 (fun i j => .bl (decide (j < i))) x y H Q ∨ rOrdS (fun a b => decide (b < a)) x y H Q
  | .GtE => fun x y H Q => rI0 (fun i j => .bl (decide (j ≤ i))) x y H Q ∨ rOrdS (fun a b => !decide (a < b)) x y H Q
theorem op_cmp {X : Cx} (hu : X.A.units + 65 < cLine) (o : CmpOp) : OpR X (compareOp o) (rCmp X.K o) := by
  cases o with
  | Eq => exact op_eqD (by omega)
  | NotEq => exact op_neD (by omega)
  | In => exact OpR.or (op_inD hu) (OpR.or (op_inT hu) (OpR.or (op_inK (by omega)) op_in_str))
  | NotIn => exact OpR.or (op_notInD hu) (OpR.or (op_ninT hu) (OpR.or (op_ninK (by omega)) op_notin_str))
  | Is => exact op_isN
  | IsNot => exact op_notN
  | Lt => exact OpR.or op_lt op_lt_str
  | LtE => exact OpR.or op_le op_le_str
  | Gt => exact OpR.or op_gt op_gt_str
  | GtE => exact OpR.or op_ge op_ge_str
section
variable {K : PySem.W.Frag} {B : Bs} {own : Nat → Option Addr} {ρ : Rho} {k k' : Nat} {σ : L2.St} {H Hx Hy H1 H' G : Hp} {v x y : V} {d e z : D} {kd kx ky : Kd} {a p : Addr} {Q : VK} {b : Bool}
theorem Rp.dpAt {P : Addr → Prop} (q : Rp K (Hd H P) v d) (h : dOk d = true) : Dp K H v d ∧ SeqAt.shaped d = true := (q.mono Hd.le).shaped h
theorem rIn_of (r : ER K B own ρ k σ H) (qx : RV K B own Hx H kx x d) (qy : RV K B own Hy H ky y e) (h : inD d e = some b) (neg : Bool) (w : Q (.bl (if neg then !b else b)) H) : rCmp K (if neg then .NotIn else .In) x y H Q := by
  have wx := qx.weak r
  have wy := qy.weak r
  cases e with
  | list l =>
    unfold inD at h
    simp only at h
    split at h
    · rename_i hk
      rw [Bool.and_eq_true] at hk
      cases h
      have a1 := wx.dpAt hk.1
      have a2 := wy.dpAt hk.2
      cases neg
      · exact .inl ⟨d, l, a1.1, a2.1, a1.2, a2.2, w⟩
      · exact .inl ⟨d, l, a1.1, a2.1, a1.2, a2.2, w⟩
    · cases h
  | tuple l =>
    unfold inD at h
    simp only at h
    split at h
    · rename_i hk
      rw [Bool.and_eq_true] at hk
      cases h
      have a1 := wx.dpAt hk.1
      have a2 := wy.dpAt hk.2
      cases neg
      · exact .inr (.inl ⟨d, l, a1.1, a2.1, a1.2, a2.2, w⟩)
      · exact .inr (.inl ⟨d, l, a1.1, a2.1, a1.2, a2.2, w⟩)
    · cases h
  | dict l =>
    unfold inD at h
    simp only at h
    split at h
    · rename_i hk
      obtain ⟨a, rfl, q⟩ := qy.dict
      cases h
      rcases q.get wx hk with ⟨v, d', g, e1, _⟩ | ⟨g, e1⟩
      · rw [e1] at w
        cases neg
        · exact .inr (.inr (.inl ⟨a, _, rfl, g, w⟩))
        · exact .inr (.inr (.inl ⟨a, _, rfl, g, w⟩))
      · rw [e1] at w
        cases neg
        · exact .inr (.inr (.inl ⟨a, _, rfl, g, w⟩))
        · exact .inr (.inr (.inl ⟨a, _, rfl, g, w⟩))
    · cases h
  | str t =>
    cases d with
    | str u =>
      cases h
      have e1 := wx.str_inv.1
      have e2 := wy.str_inv.1
      cases neg
      · exact .inr (.inr (.inr ⟨u, t, e1, e2, w⟩))
      · exact .inr (.inr (.inr ⟨u, t, e1, e2, w⟩))
    | none => cases h
    | bool _ => cases h
    | int _ => cases h
    | list _ => cases h
    | tuple _ => cases h
    | dict _ => cases h
  | none => cases h
  | bool _ => cases h
  | int _ => cases h
theorem isNone_of {G : Hp} (q : Rp K G v d) : decide (v = .non) = isN d := by
  cases q <;> rfl
theorem rCmp_of (r : ER K B own ρ k σ H) {o : CmpOp} (qx : RV K B own Hx H kx x d) (qy : RV K B own Hy H ky y e) (h : cmpD o d e = some b) (w : Q (.bl b) H) : rCmp K o x y H Q := by
  have wx := qx.weak r
  have wy := qy.weak r
  have eq : ∀ {c}, eqD d e = some c → Dp K H x d ∧ Dp K H y e ∧ SeqAt.shaped d = true ∧ SeqAt.shaped e = true ∧ c = PyData.eqv d e := fun {c} h => by
    unfold eqD at h
    split at h
    · rename_i hk
      rw [Bool.and_eq_true] at hk
      have a1 := wx.dpAt hk.1
      have a2 := wy.dpAt hk.2
      exact ⟨a1.1, a2.1, a1.2, a2.2, (Option.some.inj h).symm⟩
    · cases h
  have ix : ∀ {i}, d = .int i → x = .int i := fun e => by subst e; exact wx.int_inv
  have iy : ∀ {i}, e = .int i → y = .int i := fun e => by subst e; exact wy.int_inv
  have tx : ∀ {i}, d = .str i → x = .str i := fun e => by subst e; exact wx.str_inv.1
  have ty : ∀ {i}, e = .str i → y = .str i := fun e => by subst e; exact wy.str_inv.1
  unfold cmpD at h
  split at h
  · obtain ⟨a1, a2, a3, a4, rfl⟩ := eq h
    exact ⟨d, e, a1, a2, a3, a4, w⟩
  · cases he : eqD d e with
    | none => rw [he] at h; cases h
    | some c =>
      rw [he] at h
      obtain ⟨a1, a2, a3, a4, rfl⟩ := eq he
      cases h
      exact ⟨d, e, a1, a2, a3, a4, w⟩
  · exact rIn_of r qx qy h false w
  · cases he : inD d e with
    | none => rw [he] at h; cases h
    | some c =>
      rw [he] at h
      cases h
      exact rIn_of r qx qy he true w
  · split at h
    · cases h
      refine ⟨wy.none_inv, ?_⟩
      rw [isNone_of wx]
      exact w
    · cases h
  · split at h
    · cases h
      refine ⟨wy.none_inv, ?_⟩
      rw [isNone_of wx]
      exact w
    · cases h
  · cases h; exact .inl ⟨_, _, ix rfl, iy rfl, w⟩
  · cases h; exact .inl ⟨_, _, ix rfl, iy rfl, w⟩
  · cases h; exact .inl ⟨_, _, ix rfl, iy rfl, w⟩
  · cases h; exact .inl ⟨_, _, ix rfl, iy rfl, w⟩
  · cases h; exact .inr ⟨_, _, tx rfl, ty rfl, w⟩
  · cases h; exact .inr ⟨_, _, tx rfl, ty rfl, w⟩
  · cases h; exact .inr ⟨_, _, tx rfl, ty rfl, w⟩
  · cases h; exact .inr ⟨_, _, tx rfl, ty rfl, w⟩
  · cases h
end
end Y

namespace Y
open PySem PySem.W PySem.Spec PyProof.Rows L2
variable [TownS]
/-! ### a key's value is put into a dict -/
section
variable {K : PySem.W.Frag} {G H : Hp}
theorem zip_any {κ : Type} [DecidableEq κ] {f : κ → D} (hf : ∀ a b, PyData.eqv (f a) (f b) = decide (a = b)) (k : κ) : ∀ {ks : List (κ × V)} {ds : List D}, Rps K G (ks.map (·.2)) ds →
    (((ks.map fun q => f q.1).zip ds).any fun kv => PyData.eqv kv.1 (f k)) = ks.any fun kv => decide (kv.1 = k)
  | [], _, .nil => rfl
  | q :: ks, d :: ds, .cons r t => by
    rw [List.map_cons, List.zip_cons_cons, List.any_cons, List.any_cons, zip_any hf k t]
    show (PyData.eqv (f q.1) (f k) || _) = _
    rw [hf]
theorem zip_put {κ : Type} [DecidableEq κ] {f : κ → D} (hf : ∀ a b, PyData.eqv (f a) (f b) = decide (a = b)) (k : κ) {v : V} {d : D} (hv : Rp K G v d) : ∀ {ks : List (κ × V)} {ds : List D}, Rps K G (ks.map (·.2)) ds →
    ∃ ds', Rps K G ((ks.map fun kv => if kv.1 = k then (kv.1, v) else kv).map (·.2)) ds' ∧
      (((ks.map fun q => f q.1).zip ds).map fun kv => if PyData.eqv kv.1 (f k) then (kv.1, d) else kv) = (((ks.map fun kv => if kv.1 = k then (kv.1, v) else kv).map fun q => f q.1).zip ds')
  | [], _, .nil => ⟨[], .nil, rfl⟩
  | q :: ks, e :: ds, .cons r t => by
    obtain ⟨ds', h1, h2⟩ := zip_put hf k hv t
    by_cases hq : q.1 = k
    · refine ⟨d :: ds', ?_, ?_⟩
      · rw [List.map_cons, List.map_cons, if_pos hq]
        exact .cons hv h1
      · rw [List.map_cons, List.zip_cons_cons, List.map_cons, h2, List.map_cons, List.map_cons, if_pos hq, List.zip_cons_cons]
        show (if PyData.eqv (f q.1) (f k) then _ else _) :: _ = _
        rw [hf, decide_eq_true hq]
        rfl
    · refine ⟨e :: ds', ?_, ?_⟩
      · rw [List.map_cons, List.map_cons, if_neg hq]
        exact .cons r h1
      · rw [List.map_cons, List.zip_cons_cons, List.map_cons, h2, List.map_cons, List.map_cons, if_neg hq, List.zip_cons_cons]
        show (if PyData.eqv (f q.1) (f k) then _ else _) :: _ = _
        rw [hf, decide_eq_false hq]
        rfl
theorem keys_put {κ : Type} [DecidableEq κ] {k : κ} {v : V} : ∀ {ks : List (κ × V)}, (ks.map fun kv => if kv.1 = k then (kv.1, v) else kv).map (·.1) = ks.map (·.1)
  | [] => rfl
  | q :: ks => by
    rw [List.map_cons, List.map_cons, keys_put]
    by_cases h : q.1 = k
    · rw [if_pos h]; rfl
    · rw [if_neg h]; rfl
theorem zip_append1 {α β : Type} {a : α} {b : β} : ∀ {l : List α} {m : List β}, l.length = m.length → (l ++ [a]).zip (m ++ [b]) = l.zip m ++ [(a, b)]
  | [], [], _ => rfl
  | x :: l, y :: m, h => by
    rw [List.cons_append, List.cons_append, List.zip_cons_cons, List.zip_cons_cons, zip_append1 (by simpa using h)]
    rfl
  | [], _ :: _, h => by simp at h
  | _ :: _, [], h => by simp at h
theorem dput_put {κ : Type} [DecidableEq κ] {f : κ → D} (hf : ∀ a b, PyData.eqv (f a) (f b) = decide (a = b)) (k : κ) {v : V} {d : D} (hv : Rp K G v d) {ks : List (κ × V)} {ds : List D} (r : Rps K G (ks.map (·.2)) ds) (nd : (ks.map (·.1)).Nodup) :
    ∃ ds', Rps K G ((putK ks k v).map (·.2)) ds' ∧ dput ((ks.map fun q => f q.1).zip ds) (f k) d = ((putK ks k v).map fun q => f q.1).zip ds' ∧ ((putK ks k v).map (·.1)).Nodup ∧ ∀ q ∈ putK ks k v, q.1 = k ∨ ∃ q' ∈ ks, q'.1 = q.1 := by
  unfold dput putK
  rw [zip_any hf k r]
  by_cases h : (ks.any fun kv => decide (kv.1 = k)) = true
  · rw [if_pos h, if_pos h]
    obtain ⟨ds', h1, h2⟩ := zip_put hf k hv r
    refine ⟨ds', h1, h2, by rw [keys_put]; exact nd, fun q hq => ?_⟩
    obtain ⟨q', h3, h4⟩ := List.mem_map.mp hq
    refine .inr ⟨q', h3, ?_⟩
    rw [← h4]
    split <;> rfl
  · rw [if_neg h, if_neg h]
    refine ⟨ds ++ [d], ?_, ?_, ?_, fun q hq => ?_⟩
    · rw [List.map_append]
      exact r.append (.cons hv .nil)
    · rw [List.map_append]
      show _ = ((ks.map fun q => f q.1) ++ [f k]).zip (ds ++ [d])
      rw [zip_append1 (by rw [List.length_map]; have := r.length; rw [List.length_map] at this; exact this)]
    · rw [List.map_append, List.nodup_append]
      refine ⟨nd, by simp, fun a ha b hb => ?_⟩
      have hb : b = k := by simpa using hb
      intro e
      apply h
      obtain ⟨q, hq, e2⟩ := List.mem_map.mp ha
      exact List.any_eq_true.mpr ⟨q, hq, by rw [decide_eq_true]; rw [e2, e, hb]⟩
    · rcases List.mem_append.mp hq with hq | hq
      · exact .inr ⟨q, hq, rfl⟩
      · have : q = (k, v) := by simpa using hq
        rw [this]
        exact .inl rfl
theorem eqvT (a b : List Key) : PyData.eqv (PyData.tuple (a.map kD)) (PyData.tuple (b.map kD)) = decide (a = b) := by rw [PyData.eqv]; exact eqvAll_kD
theorem DcR.put {a : Addr} {t : Bool} {l : List (D × D)} {P : Addr → Prop} {y u : V} {e d : D} (q : DcR K H (Hd H P) a t l) (qy : Rp K (Hd H P) y e) (h : keyOk t e = true) (qv : Rp K (Hd H P) u d) (hl : lim (l.length + 1) = true) :
    ∃ o, DPut H a y u (upd H a o) ∧ (∀ xs, o ≠ .tup xs ∧ ∀ ob u, o ≠ .frz ob u) ∧ ∀ H' G', H' a = some o → (∀ b o, Hd H P b = some o → G' b = some o) → DcR K H' G' a t (dput l e d) := by
  have hl := lim_le hl
  rcases q with ⟨rfl, ks, ds, h1, hz, h2, h3, h4, rfl⟩ | ⟨rfl, ks, ds, h1, hz, h2, h3, h4, rfl⟩
  · obtain ⟨key, rfl, rfl, ok⟩ := keyK_inv qy h
    obtain ⟨ds', e1, e2, e3, e4⟩ := dput_put (K := K) (G := Hd H P) (f := kD) (fun a b => kD_inj) key qv h4 h3
    have hlen : ks.length < sizeLine := by
      rw [List.length_zip, List.length_map] at hl
      have := h4.length
      rw [List.length_map] at this
      omega
    refine ⟨_, DPut.k h1 hlen, fun xs => ⟨(fun z => nomatch z), fun _ _ z => nomatch z⟩, fun H' G' hh hg => .inl ⟨rfl, _, ds', hh, by have := length_putK ks key u; omega, fun q hq => ?_, e3, e1.mono hg, e2⟩⟩
    rcases e4 q hq with z | ⟨q', z1, z2⟩
    · rw [z]; exact ok
    · rw [← z2]; exact h2 q' z1
  · obtain ⟨b, key, rfl, hb, rfl, ok1, ok2⟩ := keyT_inv qy h
    obtain ⟨ds', e1, e2, e3, e4⟩ := dput_put (K := K) (G := Hd H P) (f := fun k : List Key => PyData.tuple (k.map kD)) eqvT key qv h4 h3
    have hlen : ks.length < sizeLine := by
      rw [List.length_zip, List.length_map] at hl
      have := h4.length
      rw [List.length_map] at this
      omega
    refine ⟨_, DPut.t h1 (Hd.le _ _ hb) hlen, fun xs => ⟨(fun z => nomatch z), fun _ _ z => nomatch z⟩, fun H' G' hh hg => .inr ⟨rfl, _, ds', hh, by have := length_putK ks key u; omega, fun q hq => ?_, e3, e1.mono hg, e2⟩⟩
    rcases e4 q hq with z | ⟨q', z1, z2⟩
    · rw [z]; exact ⟨ok1, ok2⟩
    · rw [← z2]; exact h2 q' z1
end
end Y

namespace Y
open PySem PySem.W PySem.Spec PyProof.Rows L2
variable [TownS]

/-! ### items and slices -/
section
variable {X : Cx}
def rIxD : R2 := fun x y H Q => ∃ a v, x = .ref a ∧ DGet H a y (some v) ∧ Q v H
theorem ix_dict (hu : X.A.units + 1 < cLine) : IxR X rIxD := by
  intro value slice pins s σ H x y v u Q I rx ry h hs
  obtain ⟨a, z, rfl, g, q⟩ := h
  cases rx
  exact tail_any (dict_typeIs I g) PySem.F.slot_dict_getitem.lookup (d_getItem hu I g ry fun w' s3 I3 rw' => ⟨z, H, I3, rw', q⟩) hs
def rIxA (K : PySem.W.Frag) : R2 := fun x y H Q => rIx K x y H Q ∨ rIxD x y H Q
theorem ix_all (hu : X.A.units + 1 < cLine) : IxR X (rIxA X.K) := IxR.or ix_seq (ix_dict hu)
def rSlAll (K : PySem.W.Frag) : V → Option Int → Option Int → Hp → VK → Prop := fun x lo hi H Q => rSlL K x lo hi H Q ∨ rSlA K x lo hi H Q
theorem sl_all : SlR X (rSlAll X.K) := SlR.or sl_list sl_tupA
end
section
variable {K : PySem.W.Frag} {B : Bs} {own : Nat → Option Addr} {ρ : Rho} {k k' : Nat} {σ : L2.St} {H Hx Hy H1 H' G : Hp} {v x y : V} {d e z : D} {kd kx ky : Kd} {a p : Addr} {Q : VK} {b : Bool}
theorem Rps.atI {vs : List V} {ds : List D} {i : Int} (q : Rps K G vs ds) (h : L2.atI ds i = some d) : ∃ v, L2.atI vs i = some v ∧ Rp K G v d := by
  unfold L2.atI at h ⊢
  rw [q.length]
  cases e : ixN ds.length i with
  | none => rw [e] at h; cases h
  | some j =>
    rw [e] at h
    obtain ⟨v, h1, h2⟩ := q.get h
    exact ⟨v, h1, h2⟩
theorem str_one {s : Str} {i : Int} {c : Nat} (hs : strOk s) (h : L2.atI s.cps.toList i = some c) : strOk ⟨#[c]⟩ := by
  obtain ⟨j, _, h2, _⟩ := atI_get h
  refine ⟨?_, ?_⟩
  · have h1 := hs.1
    unfold PySem.PyData.strOk at h1 ⊢
    rw [Array.all_eq_true_iff_forall_mem] at h1
    have hm : c ∈ s.cps := by
      have := List.mem_of_getElem? h2
      simpa using this
    simpa using h1 c hm
  · show 1 ≤ sizeLine
    rw [sizeLine_eq]; decide
theorem rIx_of (r : ER K B own ρ k σ H) (qx : RV K B own Hx H kx x d) (qy : RV K B own Hy H ky y e) (h : ixD d e = some z) (w : Wn K B own H z Q) : rIxA K x y H Q := by
  have iy : ∀ {i}, e = .int i → y = .int i := fun e => by subst e; exact (qy.weak r).int_inv
  cases d with
  | list l =>
    cases e with
    | int i =>
      obtain ⟨a, vs, rfl, s1, n1, t1⟩ := qx.list
      obtain ⟨v, h1, h2⟩ := t1.atI h
      exact .inl (.inl ⟨a, vs, i, v, rfl, iy rfl, s1, h1, w.here h2⟩)
    | _ => cases h
  | tuple l =>
    cases e with
    | int i =>
      obtain ⟨a, vs, rfl, s1, n1, t1, _⟩ := qx.tup
      obtain ⟨v, h1, h2⟩ := t1.atI h
      exact .inl (.inr (.inl ⟨a, vs, i, v, rfl, iy rfl, s1, h1, w.here h2⟩))
    | _ => cases h
  | str l =>
    cases e with
    | int i =>
      have q := (qx.weak r).str_inv
      have h : (L2.atI l.cps.toList i).map (fun c => PyData.str ⟨#[c]⟩) = some z := h
      cases hc : L2.atI l.cps.toList i with
      | none => rw [hc] at h; cases h
      | some c =>
        rw [hc] at h
        cases h
        exact .inl (.inr (.inr ⟨l, i, c, q.1, iy rfl, q.2.2, hc, w.here (.str _ (str_one q.2 hc))⟩))
    | _ => cases h
  | dict l =>
    have h : (if keyOk (kindD l) e then dget l e else none) = some z := h
    split at h
    · rename_i hk
      obtain ⟨a, rfl, q⟩ := qx.dict
      rcases q.get (qy.weak r) hk with ⟨v, d', g, e1, e2⟩ | ⟨g, e1⟩
      · rw [e1] at h
        cases h
        exact .inr ⟨a, v, rfl, g, w.here e2⟩
      · rw [e1] at h; cases h
    · cases h
  | none => cases h
  | bool _ => cases h
  | int _ => cases h
theorem cutV_whole {xs : List V} {lo hi : Option Int} (h : HT.sIx xs.length 0 lo = 0 ∧ HT.sIx xs.length xs.length hi = xs.length) : cutV xs lo hi = xs := by
  unfold cutV
  rw [h.1, h.2]
  simp
theorem cutD_whole {xs : List D} {lo hi : Option Int} (h : HT.sIx xs.length 0 lo = 0 ∧ HT.sIx xs.length xs.length hi = xs.length) : cutD xs lo hi = xs := by
  unfold cutD
  rw [h.1, h.2]
  simp
theorem rSl_of (r : ER K B own ρ k σ H) (qx : RV K B own Hx H kx x d) {lo hi : Option Int} (h : slD d lo hi = some z) (w : Wn K B own H z Q) : rSlAll K x lo hi H Q := by
  cases d with
  | list l =>
    obtain ⟨a, vs, rfl, s1, n1, t1⟩ := qx.list
    cases h
    refine .inl ⟨a, vs, rfl, s1, fun g hg => w.lst r hg ?_ (t1.cut lo hi)⟩
    exact Nat.le_trans (cutV_length ..) n1
  | tuple l =>
    obtain ⟨a, vs, rfl, s1, n1, t1, u1⟩ := qx.tup
    cases h
    refine .inr ⟨a, vs, rfl, s1, fun hw => ?_, fun hw g hg => w.tup r hg ?_ (t1.cut lo hi)⟩
    · rw [t1.length] at hw
      rw [cutD_whole hw] at w
      exact w.here u1
    · exact Nat.le_trans (cutV_length ..) n1
  | _ => cases h

/-! ### built-in functions of one thing -/
theorem bools_inv : ∀ {l : List D} {bs : List Bool} {vs : List V}, boolsOf l = some bs → Rps K G vs l → vs = bs.map V.bl
  | [], _, _, h, .nil => by cases h; rfl
  | x :: l, bs, _, h, .cons a t => by
    unfold boolsOf at h
    cases hx : boolOf x with
    | none => simp [hx] at h
    | some b =>
      cases hl : boolsOf l with
      | none => simp [hx, hl] at h
      | some r =>
        simp [hx, hl] at h
        subst h
        have e : x = .bool b := by cases x <;> simp [boolOf] at hx; rw [hx]
        subst e
        rw [a.bool_inv, bools_inv hl t]
        rfl
theorem ints_inv : ∀ {l : List D} {bs : List Int} {vs : List V}, intsOf l = some bs → Rps K G vs l → vs = bs.map V.int
  | [], _, _, h, .nil => by cases h; rfl
  | x :: l, bs, _, h, .cons a t => by
    unfold intsOf at h
    cases hx : intOf x with
    | none => simp [hx] at h
    | some b =>
      cases hl : intsOf l with
      | none => simp [hx, hl] at h
      | some r =>
        simp [hx, hl] at h
        subst h
        have e : x = .int b := by cases x <;> simp [intOf] at hx; rw [hx]
        subst e
        rw [a.int_inv, ints_inv hl t]
        rfl
end
/-! ### texts in order -/
def leS (x y : Str) : Prop := ltCps y.cps.toList x.cps.toList = false
theorem leS_total (x y : Str) : leS x y ∨ leS y x := by
  unfold leS
  rw [ltCps_eq, ltCps_eq]
  by_cases h : y.cps.toList < x.cps.toList
  · right
    exact decide_eq_false fun z => List.lt_irrefl _ (List.lt_trans h z)
  · left
    exact decide_eq_false h
theorem leS_trans {x y z : Str} (h1 : leS x y) (h2 : leS y z) : leS x z := by
  unfold leS at *
  rw [ltCps_eq] at *
  have h1 := of_decide_eq_false h1
  have h2 := of_decide_eq_false h2
  refine decide_eq_false fun q => ?_
  rw [List.not_lt] at h1 h2
  exact absurd q (List.not_lt.mpr (List.le_trans h1 h2))
theorem leS_anti {x y : Str} (h1 : leS x y) (h2 : leS y x) : x = y := by
  unfold leS at *
  rw [ltCps_eq] at *
  have h1 := of_decide_eq_false h1
  have h2 := of_decide_eq_false h2
  rw [List.not_lt] at h1 h2
  have e := List.le_antisymm h1 h2
  cases x
  cases y
  congr 1
  exact Array.toList_inj.mp e
theorem insStr_perm {x : Str} : ∀ {l : List Str}, (insStr x l).Perm (x :: l)
  | [] => .refl _
  | y :: l => by
    unfold insStr
    split
    · exact (insStr_perm.cons y).trans (.swap x y l)
    · exact .refl _
theorem sortStr_perm : ∀ {l : List Str}, (sortStr l).Perm l
  | [] => .refl _
  | x :: l => by
    unfold sortStr
    exact insStr_perm.trans (sortStr_perm.cons x)
theorem insStr_sorted {x : Str} : ∀ {l : List Str}, l.Pairwise leS → (insStr x l).Pairwise leS
  | [], _ => List.pairwise_singleton _ _
  | y :: l, h => by
    have ⟨h1, h2⟩ := List.pairwise_cons.mp h
    unfold insStr
    split
    · rename_i hlt
      have hyx : leS y x := by
        unfold leS
        rw [ltCps_eq]
        exact decide_eq_false fun z => List.lt_irrefl _ (List.lt_trans (of_decide_eq_true hlt) z)
      refine List.pairwise_cons.mpr ⟨fun a ha => ?_, insStr_sorted h2⟩
      rcases List.mem_cons.mp (insStr_perm.mem_iff.mp ha) with rfl | ha
      · exact hyx
      · exact h1 a ha
    · rename_i hlt
      have hxy : leS x y := by
        unfold leS
        rw [ltCps_eq]
        exact decide_eq_false fun z => hlt (decide_eq_true z)
      refine List.pairwise_cons.mpr ⟨fun a ha => ?_, h⟩
      rcases List.mem_cons.mp ha with rfl | ha
      · exact hxy
      · exact leS_trans hxy (h1 a ha)
theorem sortStr_sorted : ∀ {l : List Str}, (sortStr l).Pairwise leS
  | [] => .nil
  | x :: l => by
    unfold sortStr
    exact insStr_sorted sortStr_sorted
theorem pairwise_of_rising : ∀ {l : List Str} {x : Str}, risingS x l = true → (x :: l).Pairwise leS
  | [], _, _ => List.pairwise_singleton _ _
  | y :: l, x, h => by
    have h : (!ltCps y.cps.toList x.cps.toList && risingS y l) = true := h
    rw [Bool.and_eq_true] at h
    have hxy : leS x y := by simpa [leS] using h.1
    have ih := pairwise_of_rising h.2
    refine List.pairwise_cons.mpr ⟨fun a ha => ?_, ih⟩
    rcases List.mem_cons.mp ha with rfl | ha
    · exact hxy
    · exact leS_trans hxy ((List.pairwise_cons.mp ih).1 a ha)
theorem sorted_unique {ys xs : List Str} (hp : ys.Perm xs) (hs : sortedS ys = true) : ys = sortStr xs := by
  have h1 : ys.Pairwise leS := by
    cases ys with
    | nil => exact .nil
    | cons y l => exact pairwise_of_rising hs
  exact List.Perm.eq_of_pairwise (fun a b _ _ h1 h2 => leS_anti h1 h2) h1 sortStr_sorted (hp.trans sortStr_perm.symm)
theorem foldl_max : ∀ {l : List Int} {x : Int}, l.foldl (fun a b => if a < b then b else a) x ∈ x :: l ∧ ∀ y ∈ x :: l, y ≤ l.foldl (fun a b => if a < b then b else a) x
  | [], x => ⟨by simp, fun y h => by simp at h; rw [h]; exact Int.le_refl _⟩
  | z :: l, x => by
    obtain ⟨h1, h2⟩ := foldl_max (l := l) (x := if x < z then z else x)
    rw [List.foldl_cons]
    have hx : x ≤ if x < z then z else x := by split <;> omega
    have hz : z ≤ if x < z then z else x := by split <;> omega
    have hm := h2 _ (List.mem_cons_self ..)
    refine ⟨?_, fun y hy => ?_⟩
    · rcases List.mem_cons.mp h1 with e | e
      · rw [e]
        split
        · exact List.mem_cons_of_mem _ (List.mem_cons_self ..)
        · exact List.mem_cons_self ..
      · exact List.mem_cons_of_mem _ (List.mem_cons_of_mem _ e)
    · rcases List.mem_cons.mp hy with e | hy
      · rw [e]; exact Int.le_trans hx hm
      · rcases List.mem_cons.mp hy with e | hy
        · rw [e]; exact Int.le_trans hz hm
        · exact h2 y (List.mem_cons_of_mem _ hy)
theorem strs_inv {K : PySem.W.Frag} {G : Hp} : ∀ {l : List D} {bs : List Str} {vs : List V}, strsOf l = some bs → Rps K G vs l → vs = bs.map V.str ∧ ∀ b ∈ bs, strOk b
  | [], bs, [], h, _ => by cases h; exact ⟨rfl, fun b h => nomatch h⟩
  | [], _, _ :: _, _, q => nomatch q
  | x :: l, bs, v :: vs, h, .cons a t => by
    cases x with
    | str i =>
      cases hl : strsOf l with
      | none => simp [strsOf, strOf, hl] at h
      | some r =>
        have e : bs = i :: r := by simpa [strsOf, strOf, hl] using h.symm
        subst e
        obtain ⟨e1, o1⟩ := a.str_inv
        obtain ⟨e2, o2⟩ := strs_inv hl t
        subst e1 e2
        refine ⟨rfl, fun b hb => ?_⟩
        rcases List.mem_cons.mp hb with rfl | hb
        · exact o1
        · exact o2 b hb
    | _ => simp [strsOf, strOf] at h
theorem strs_rps {K : PySem.W.Frag} {G : Hp} : ∀ {bs : List Str}, (∀ b ∈ bs, strOk b) → Rps K G (bs.map V.str) (bs.map PyData.str)
  | [], _ => .nil
  | b :: bs, h => .cons (.str b (h b (List.mem_cons_self ..))) (strs_rps fun b hb => h b (List.mem_cons_of_mem _ hb))
def biName : Bi → Sum String String
  | .len => .inl "len"
  | .any => .inl "any"
  | .all => .inl "all"
  | .sum => .inl "sum"
  | .abs => .inl "abs"
  | .tuple => .inr "tuple"
  | .list => .inr "list"
  | .sorted => .inl "sorted"
  | .str => .inr "str"
  | .int => .inr "int"
  | .max => .inl "max"
  | .min => .inl "min"
  | .lenSet => .inl "len"
  | .sortedSet => .inl "sorted"
def rBi (K : PySem.W.Frag) : Bi → List V → Hp → VK → Prop
  | .len => fun xs H Q => (∃ x n, xs = [x] ∧ LenV K x H n ∧ Q (.int n) H) ∨ (∃ a kvs, xs = [V.ref a] ∧ H a = some (.dK kvs) ∧ Q (.int kvs.length) H) ∨ rLenT xs H Q
  | .any => rAny K
  | .all => rAll K
  | .sum => rSum K
  | .abs => fun xs H Q => ∃ i, xs = [.int i] ∧ Q (.int (if i < 0 then -i else i)) H
  | .tuple => fun xs H Q => ∃ p ys, xs = [.ref p] ∧ ((SqL K H p ys ∧ ∀ l, H l = none → Q (.ref l) (upd H l (.tup ys))) ∨ (SqT K H p ys ∧ Q (.ref p) H))
  | .list => fun xs H Q => ∃ p ys, xs = [.ref p] ∧ (SqL K H p ys ∨ SqT K H p ys) ∧ ∀ l, H l = none → Q (.ref l) (upd H l (.lst ys))
  | .max => rMax K
  | .str => fun xs H Q => (∃ i, xs = [.int i] ∧ i.natAbs.log2 < 1920 ∧ Q (.str (toString i)) H) ∨ ∃ a, xs = [.str a] ∧ Q (.str a) H
  | .int => fun xs H Q => ((∃ i, xs = [.int i] ∧ Q (.int i) H) ∨ ∃ k, xs = [.bl k] ∧ Q (.int (if k then 1 else 0)) H) ∨ ∃ a n, xs = [.str a] ∧ PySem.intText? a = some n ∧ a.length ≤ 640 ∧ Q (.int n) H
  | .sorted => rSortedS K
  | _ => fun _ _ _ => False
theorem CallR.or {X : Cx} {f : Value} {r r' : List V → Hp → VK → Prop} (h : CallR X f r) (h' : CallR X f r') : CallR X f (fun xs H Q => r xs H Q ∨ r' xs H Q) := by
  intro pins s σ H xs us Q I rx q
  rcases q with q | q
  · exact h pins s σ H xs us Q I rx q
  · exact h' pins s σ H xs us Q I rx q
def biVal : Sum String String → Value
  | .inl x => .builtin x
  | .inr x => .type x
theorem call_bi {X : Cx} (hc : X.calm = true) (b : Bi) : CallR X (biVal (biName b)) (rBi X.K b) := by
  cases b with
  | len => exact CallR.or call_len (CallR.or call_lenD call_len_dT)
  | any => exact cr_any hc
  | all => exact cr_all hc
  | sum => exact cr_sum hc
  | abs => exact call_abs
  | tuple => exact call_tuple_of
  | list => exact call_list_of
  | max => exact cr_max hc
  | str => exact CallR.or call_str_int SkE.call_str_str
  | int => exact CallR.or call_int1 call_int_str
  | sorted => exact cr_sortedS
  | _ => intro pins s σ H xs us Q I rx q; exact q.elim
section
variable {K : PySem.W.Frag} {B : Bs} {own : Nat → Option Addr} {ρ : Rho} {k k' : Nat} {σ : L2.St} {H Hx Hy H1 H' G : Hp} {v x y : V} {d e z : D} {kd kx ky : Kd} {a p : Addr} {Q : VK}
theorem rBi_of (r : ER K B own ρ k σ H) {b : Bi} (qx : RV K B own Hx H kx x d) (h : biD b d = some z) (w : Wn K B own H z Q) : rBi K b [x] H Q := by
  unfold biD at h
  split at h
  · rename_i l
    cases h
    obtain ⟨a, vs, rfl, s1, n1, t1⟩ := qx.list
    have := w.int
    rw [← t1.length] at this
    exact .inl ⟨_, _, rfl, .inl ⟨vs, s1, rfl⟩, this⟩
  · rename_i l
    cases h
    obtain ⟨a, vs, rfl, s1, n1, t1, _⟩ := qx.tup
    have := w.int
    rw [← t1.length] at this
    exact .inl ⟨_, _, rfl, .inr ⟨vs, s1, rfl⟩, this⟩
  · rename_i l
    cases h
    have q := (qx.weak r).str_inv
    rw [q.1]
    exact .inl ⟨_, _, rfl, ⟨q.2.2, rfl⟩, w.int⟩
  · rename_i l
    cases h
    obtain ⟨a, rfl, q⟩ := qx.dict
    have := w.int
    rcases q with ⟨_, ks, ds, h1, hz, h2, h3, h4, rfl⟩ | ⟨_, ks, ds, h1, hz, h2, h3, h4, rfl⟩
    · have hl := h4.length
      rw [List.length_zip, List.length_map, ← hl, List.length_map, Nat.min_self] at this
      exact .inr (.inl ⟨a, ks, rfl, h1, this⟩)
    · have hl := h4.length
      rw [List.length_zip, List.length_map, ← hl, List.length_map, Nat.min_self] at this
      exact .inr (.inr ⟨a, ks, rfl, h1, this⟩)
  · rename_i l
    cases h
    obtain ⟨a, vs, rfl, s1, n1, t1⟩ := qx.list
    exact ⟨a, vs, rfl, .inl ⟨s1, fun g hg => w.tup r hg n1 t1⟩⟩
  · rename_i l
    cases h
    obtain ⟨a, vs, rfl, s1, n1, t1, u1⟩ := qx.tup
    exact ⟨a, vs, rfl, .inr ⟨s1, w.here u1⟩⟩
  · rename_i l
    cases h
    obtain ⟨a, vs, rfl, s1, n1, t1⟩ := qx.list
    exact ⟨a, vs, rfl, .inl s1, fun g hg => w.lst r hg n1 t1⟩
  · rename_i l
    cases h
    obtain ⟨a, vs, rfl, s1, n1, t1, u1⟩ := qx.tup
    exact ⟨a, vs, rfl, .inr s1, fun g hg => w.lst r hg n1 t1⟩
  · rename_i l
    obtain ⟨a, vs, rfl, s1, n1, t1⟩ := qx.list
    cases hb : boolsOf l with
    | none => rw [hb] at h; cases h
    | some bs =>
      rw [hb] at h
      cases h
      rw [bools_inv hb t1] at s1
      exact ⟨a, bs, rfl, s1, w.bool⟩
  · rename_i l
    obtain ⟨a, vs, rfl, s1, n1, t1⟩ := qx.list
    cases hb : boolsOf l with
    | none => rw [hb] at h; cases h
    | some bs =>
      rw [hb] at h
      cases h
      rw [bools_inv hb t1] at s1
      exact ⟨a, bs, rfl, s1, w.bool⟩
  · rename_i l
    obtain ⟨a, vs, rfl, s1, n1, t1⟩ := qx.list
    cases hb : intsOf l with
    | none => rw [hb] at h; cases h
    | some bs =>
      rw [hb] at h
      cases h
      rw [ints_inv hb t1] at s1
      exact ⟨a, bs, rfl, s1, w.int⟩
  · rename_i i
    cases h
    rw [(qx.weak r).int_inv]
    exact ⟨i, rfl, w.int⟩
  · rename_i l
    obtain ⟨a, vs, rfl, s1, n1, t1⟩ := qx.list
    cases hb : intsOf l with
    | none => rw [hb] at h; cases h
    | some bs =>
      rw [hb] at h
      have h : (maxI bs).map PyData.int = some z := h
      cases bs with
      | nil => cases h
      | cons b0 bs =>
        cases h
        rw [ints_inv hb t1] at s1
        refine ⟨a, _, rfl, s1, by simp, fun m hm hle => ?_⟩
        obtain ⟨f1, f2⟩ := foldl_max (l := bs) (x := b0)
        have e : m = bs.foldl (fun a b => if a < b then b else a) b0 := Int.le_antisymm (f2 m hm) (hle _ f1)
        rw [e]
        exact w.int
  · rename_i i
    split at h
    · rename_i hc
      cases h
      simp only [Bool.and_eq_true] at hc
      rw [(qx.weak r).int_inv]
      exact .inl ⟨i, rfl, of_decide_eq_true hc.1.1, w.here (.str _ ⟨hc.1.2, lim_le hc.2⟩)⟩
    · cases h
  · cases h
    have q := (qx.weak r).str_inv
    rw [q.1]
    exact .inr ⟨_, rfl, w.here (.str _ q.2)⟩
  · cases h
    rw [(qx.weak r).int_inv]
    exact .inl (.inl ⟨_, rfl, w.int⟩)
  · cases h
    rw [(qx.weak r).bool_inv]
    exact .inl (.inr ⟨_, rfl, w.int⟩)
  · rename_i a
    split at h
    · rename_i hc
      cases hi : PySem.intText? a with
      | none => rw [hi] at h; cases h
      | some n =>
        rw [hi] at h
        cases h
        have q := (qx.weak r).str_inv
        rw [q.1]
        exact .inr ⟨a, n, rfl, hi, of_decide_eq_true hc, w.int⟩
    · cases h
  · rename_i l
    obtain ⟨a, vs, rfl, s1, n1, t1⟩ := qx.list
    cases hb : strsOf l with
    | none => rw [hb] at h; cases h
    | some bs =>
      rw [hb] at h
      have h : (if decide (bs.length < 64) = true then some (PyData.list ((sortStr bs).map .str)) else none) = some z := h
      split at h
      · rename_i hc
        cases h
        obtain ⟨e1, o1⟩ := strs_inv hb t1
        subst e1
        refine ⟨a, bs, rfl, s1, of_decide_eq_true hc, fun ys q hp hs hq => ?_⟩
        rw [sorted_unique hp hs]
        have hl : (sortStr bs).length = bs.length := sortStr_perm.length_eq
        refine w.lst r hq ?_ (strs_rps fun b hb => o1 b (sortStr_perm.mem_iff.mp hb))
        rw [List.length_map, hl, sizeLine_eq]
        have := of_decide_eq_true hc
        omega
      · cases h
  · cases h
end
end Y

namespace Y
open PySem PySem.W PySem.Spec PyProof.Rows L2
variable [TownS]

/-! ### what the words stand for in the text -/
structure Site where
  nm : Str
  np : Nat
  kw : List Str
structure Ck where
  N : List Str
  gn : Nat → Option Str
  cs : Nat → Option Site
  ct : Nat → Option Str
  bl : List Str
def visB (sc : Scope) (x : Str) : Bool := match sc.names.lookup x with
  | some .local => true
  | some .cell => true
  | some .free => true
  | _ => false
def glB (sc : Scope) (x : Str) : Bool := decide (sc.names.lookup x = some .globalImplicit)
def nmOk (x : Str) : Bool := !(x == ("__debug__" : Str)) && !(x == ("__classdict__" : Str)) && !(x == ("__name__" : Str))
def strOkB (x : Str) : Bool := PySem.PyData.strOk x && lim x.length
def cstOk : D → Const → Bool
  | .none, .none => true
  | .bool a, .bool b => decide (a = b)
  | .int a, .int b => decide (a = b)
  | .str a, .str b => decide (a = b) && strOkB a
  | _, _ => false
def biCk (b : Bi) (f : Str) : Bool := match biName b with
  | .inl x => decide (bootBuiltins f = some (.builtin x))
  | .inr x => decide (bootBuiltins f = some (.type x))
def locB (fn : Str → Bool) (sc : Scope) (x : Str) : Bool := match sc.names.lookup x with
  | some .local => true
  | some .cell => fn x
  | _ => false
mutual
def ckT (N : List Str) (fn : Str → Bool) (sc : Scope) : Tg → Expr → Bool
  | .nm i, .Name x _ => decide (N[i]? = some x) && locB fn sc x
  | .tp ts, .Tuple es _ _ => ckTs N fn sc ts es
  | _, _ => false
def ckTs (N : List Str) (fn : Str → Bool) (sc : Scope) : Tgs → List Expr → Bool
  | .nil, [] => true
  | .cons t ts, e :: es => ckT N fn sc t e && ckTs N fn sc ts es
  | _, _ => false
end
mutual
def tgSl : Tg → List Nat
  | .nm i => [i]
  | .tp ts => tgsSl ts
  | .st ts i => i :: tgsSl ts
def tgsSl : Tgs → List Nat
  | .nil => []
  | .cons t ts => tgSl t ++ tgsSl ts
end
def ownNm (N : List Str) (own : List Nat) : List (Str × Nat) := own.map fun i => (N.getD i "", i)
def isTrueC : E → Bool
  | .cst (.bool true) => true
  | _ => false
def isNm (e : Expr) (o : Option Str) : Bool := match e with
  | .Name x _ => decide (o = some x)
  | _ => false
theorem isNm_inv {e : Expr} {o : Option Str} (h : isNm e o = true) : ∃ x pos, e = .Name x pos ∧ o = some x := by
  unfold isNm at h
  split at h
  · exact ⟨_, _, rfl, of_decide_eq_true h⟩
  · cases h
def nmG (sc : Scope) : Expr → Bool
  | .Name x _ => glB sc x && nmOk x
  | _ => false
def nmV (sc : Scope) : Expr → Bool
  | .Name x _ => visB sc x && nmOk x
  | _ => false
def biE (bl : List Str) (sc : Scope) (b : Bi) : Expr → Bool
  | .Name x _ => biCk b x && bl.contains x && glB sc x && nmOk x
  | _ => false
def isTupX : Expr → Bool
  | .Tuple _ _ _ => true
  | _ => false
/-- pairs come to a target in brackets -/
def pairOk (it : It) (t : Expr) : Bool := match it with
  | .enum _ => isTupX t
  | .zip _ _ => isTupX t
  | _ => true
def slOf : Expr → Option (Option Expr × Option Expr)
  | .Slice l h none _ => some (l, h)
  | _ => none
theorem slOf_inv {z : Expr} {l h : Option Expr} (e : slOf z = some (l, h)) : ∃ pos, z = .Slice l h none pos := by
  unfold slOf at e
  split at e
  · cases e; exact ⟨_, rfl⟩
  · cases e
def atOf : Expr → Option (Expr × Str × Pos)
  | .Attribute o n pos => some (o, n, pos)
  | _ => none
theorem atOf_inv {z o : Expr} {n : Str} {pos : Pos} (e : atOf z = some (o, n, pos)) : z = .Attribute o n pos := by
  unfold atOf at e
  split at e
  · cases e; rfl
  · cases e
def mtCk : Mt → Str → Nat → Bool
  | .get, n, k => decide (n = "get") && (k == 1 || k == 2)
  | _, _, _ => false
/-- a built-in's name -/
def isBl (bl : List Str) (sc : Scope) (f : Str) : Expr → Bool
  | .Name x _ => decide (x = f) && bl.contains x && glB sc x
  | _ => false
theorem isBl_inv {bl : List Str} {sc : Scope} {f : Str} {e : Expr} (h : isBl bl sc f e = true) : ∃ pos, e = .Name f pos ∧ bl.contains f = true ∧ glB sc f = true := by
  unfold isBl at h
  split at h
  · simp only [Bool.and_eq_true] at h
    have e := of_decide_eq_true h.1.1
    subst e
    exact ⟨_, rfl, h.1.2, h.2⟩
  · cases h
def isIntC (j : Int) : Expr → Bool
  | .Constant (.int i) _ _ => decide (i = j)
  | _ => false
theorem isIntC_inv {j : Int} {e : Expr} (h : isIntC j e = true) : ∃ a b, e = .Constant (.int j) a b := by
  unfold isIntC at h
  split at h
  · rw [of_decide_eq_true h]; exact ⟨_, _, rfl⟩
  · cases h
def subX : Expr → Option (Expr × Expr)
  | .Subscript o i _ => some (o, i)
  | _ => none
theorem subX_inv {z o i : Expr} (e : subX z = some (o, i)) : ∃ pos, z = .Subscript o i pos := by
  unfold subX at e
  split at e
  · cases e; exact ⟨_, rfl⟩
  · cases e
def callX : Expr → Option (Expr × Expr)
  | .Call f [x] [] _ => some (f, x)
  | _ => none
theorem callX_inv {z f x : Expr} (e : callX z = some (f, x)) : ∃ pos, z = .Call f [x] [] pos := by
  unfold callX at e
  split at e
  · cases e; exact ⟨_, rfl⟩
  · cases e
def tyS : Ty → Str
  | .str => "str"
  | .int => "int"
  | .bool => "bool"
  | .tuple => "tuple"
  | .list => "list"
/-- the forms that are met -/
def plainX : Expr → Bool
  | .Slice .. => false
  | .Set .. => false
  | .Starred .. => false
  | .SetComp .. => false
  | .DictComp .. => false
  | .Call (.Name _ _) [] [] _ => true
  | _ => true
/-- no call without arguments -/
def plainO : Expr → Bool
  | .Call _ [] _ _ => false
  | _ => true
mutual
def ck (C : Ck) (sc : Scope) : E → Expr → Bool
  | .omit, x => plainX x
  | .var i, .Name x _ => decide (C.N[i]? = some x) && visB sc x && nmOk x
  | .cst d, .Constant c _ _ => cstOk d c
  | .glb j, .Name x _ => decide (C.gn j = some x) && glB sc x && nmOk x
  | .tup es, .Tuple l _ _ => cks C sc es l && lim l.length
  | .lst es, .List l _ => cks C sc es l && lim l.length
  | .bin o a b, .BinOp x op y _ => decide (op = binOp o) && ck C sc a x && ck C sc b y
  | .cmp o a b, .Compare x [op] [y] _ => decide (op = o) && ck C sc a x && ck C sc b y
  | .chn o o' a b c, .Compare x [op, op'] [y, z] _ => decide (op = o) && decide (op' = o') && ck C sc a x && ck C sc b y && ck C sc c z
  | .nt a, .UnaryOp .Not x _ => ck C sc a x
  | .neg a, .UnaryOp .USub x _ => ck C sc a x
  | .bop isOr a b, .BoolOp op (x :: y :: r) pos => decide (op = if isOr then .Or else .And) && ck C sc a x && ck C sc b (if r.isEmpty then y else .BoolOp op (y :: r) pos)
  | .ite c a b, .IfExp t x y _ => ck C sc c t && ck C sc a x && ck C sc b y
  | .ix a i, .Subscript x y _ => ck C sc a x && ck C sc i y
  | .sl a lo hi, .Subscript x z _ => ck C sc a x && (match slOf z with
      | some (l, h) => decide (isOmit lo = l.isNone) && decide (isOmit hi = h.isNone) && (l.isNone || ck C sc lo (l.getD x)) && (h.isNone || ck C sc hi (h.getD x))
      | none => false)
  | .call j es ks, .Call (.Name f _) args kws _ => (match C.cs j with
      | some s => decide (s.nm = f) && decide (args.length = s.np) && decide (kws.map (·.arg) = s.kw.map some)
      | none => false) && glB sc f && nmOk f && cks C sc es args && cks C sc ks (kws.map (·.value)) && (!kws.isEmpty || true) && (kws.isEmpty || !args.isEmpty)
  | .callT j es, .Call f (s :: t :: args) [] _ => isNm f (C.ct j) && nmG sc f && isNm s C.N[0]? && nmV sc s && isNm t C.N[1]? && nmV sc t && cks C sc es args
  | .bi b a, .Call f [x] [] _ => biE C.bl sc b f && ck C sc a x
  | .mt m a es, .Call f args [] pos => (match atOf f with
      | some (o, n, apos) => mtCk m n args.length && decide (apos.endLine = pos.line) && ck C sc a o && plainO o
      | none => false) && cks C sc es args
  | .comp own tg it c elt, .ListComp e [q] scope _ => decide (q.is_async = 0) && blkC C.N sc scope (ownNm C.N own) && ckT C.N (fun x => scope.names.lookup x == some .cell) (relS scope sc) tg q.target && (tgSl tg).all (fun j => own.contains j) && cki C sc it q.iter && pairOk it q.target && plainX q.iter &&
      (match q.ifs with
        | [] => isTrueC c
        | [x] => ck C (relS scope sc) c x
        | _ => false) && ck C (relS scope sc) elt e
  | .isi t a, .Call f [x, y] [] _ => isBl C.bl sc "isinstance" f && isBl C.bl sc (tyS t) y && ck C sc a x
  | .sset a, .Call f [y] [] _ => isBl C.bl sc "sorted" f && (match callX y with
      | some (h, x) => isBl C.bl sc "set" h && ck C sc a x
      | none => false)
  | .lset a, .Call f [y] [] _ => isBl C.bl sc "len" f && (match callX y with
      | some (h, x) => isBl C.bl sc "set" h && ck C sc a x
      | none => false)
  | .repL a e, .BinOp x .Mult y _ => ck C sc a x && ck C sc e y
  | .mind a, .Call f [x] [] _ => isBl C.bl sc "min" f && ck C sc a x
  | .lstd a, .Call f [x] [] _ => isBl C.bl sc "list" f && ck C sc a x
  | .dct es, .Dict ks vs _ => ckd C sc es ks vs && !ks.isEmpty && decide (ks.length ≤ 15)
  | .sset2 own tg it c own1 tg1 it1 c1 elt, .Call f [.SetComp e [q, q1] scope _] [] _ => isBl C.bl sc "sorted" f && decide (q.is_async = 0) && decide (q1.is_async = 0) && blkC C.N sc scope (ownNm C.N own) && ckT C.N (fun x => scope.names.lookup x == some .cell) (relS scope sc) tg q.target && ckT C.N (fun x => scope.names.lookup x == some .cell) (relS scope sc) tg1 q1.target &&
      (tgSl tg).all (fun j => own.contains j) && (tgSl tg1).all (fun j => own1.contains j) && own1.all (fun j => own.contains j) && cki C sc it q.iter && pairOk it q.target && plainX q.iter && cki C (relS scope sc) it1 q1.iter && pairOk it1 q1.target && plainX q1.iter &&
      (match q.ifs with
        | [] => isTrueC c
        | [x] => ck C (relS scope sc) c x
        | _ => false) &&
      (match q1.ifs with
        | [] => isTrueC c1
        | [x] => ck C (relS scope sc) c1 x
        | _ => false) && ck C (relS scope sc) elt e
  | .twl, .Call f [x] [] _ => isBl C.bl sc "len" f && isNm x C.N[1]? && nmV sc x
  | .twm j, .BinOp x .Mod m _ => isIntC j m && (match subX x with
      | some (o, i) => isNm o C.N[1]? && nmV sc o && isIntC 0 i
      | none => false)
  | .comp2 own tg it c own1 tg1 it1 c1 elt, .ListComp e [q, q1] scope _ => decide (q.is_async = 0) && decide (q1.is_async = 0) && blkC C.N sc scope (ownNm C.N own) && ckT C.N (fun x => scope.names.lookup x == some .cell) (relS scope sc) tg q.target && ckT C.N (fun x => scope.names.lookup x == some .cell) (relS scope sc) tg1 q1.target &&
      (tgSl tg).all (fun j => own.contains j) && (tgSl tg1).all (fun j => own1.contains j) && own1.all (fun j => own.contains j) && cki C sc it q.iter && pairOk it q.target && plainX q.iter && cki C (relS scope sc) it1 q1.iter && pairOk it1 q1.target && plainX q1.iter &&
      (match q.ifs with
        | [] => isTrueC c
        | [x] => ck C (relS scope sc) c x
        | _ => false) &&
      (match q1.ifs with
        | [] => isTrueC c1
        | [x] => ck C (relS scope sc) c1 x
        | _ => false) && ck C (relS scope sc) elt e
  | _, _ => false
def cks (C : Ck) (sc : Scope) : Es → List Expr → Bool
  | .nil, [] => true
  | .cons e es, x :: xs => ck C sc e x && cks C sc es xs
  | _, _ => false
def ckd (C : Ck) (sc : Scope) : Es → List (Option Expr) → List Expr → Bool
  | .nil, [], [] => true
  | .cons k (.cons v es), some x :: ks, y :: vs => ck C sc k x && ck C sc v y && ckd C sc es ks vs
  | _, _, _ => false
def cki (C : Ck) (sc : Scope) : It → Expr → Bool
  | .lst e, x => ck C sc e x
  | .tup e, x => ck C sc e x
  | .rng e, .Call f [x] [] _ => isBl C.bl sc "range" f && ck C sc e x
  | .enum e, .Call f [x] [] _ => isBl C.bl sc "enumerate" f && ck C sc e x
  | .zip a b, .Call f [x, y] [] _ => isBl C.bl sc "zip" f && ck C sc a x && ck C sc b y
  | _, _ => false
end
theorem ck_plain {C : Ck} {sc : Scope} {e : E} {x : Expr} (h : ck C sc e x = true) : plainX x = true := by
  by_cases he : e = .omit
  · subst he
    simpa [ck] using h
  cases x <;> first | rfl | (exfalso; cases e <;> first | (exact he rfl) | (simp [ck] at h)) | skip
  all_goals (unfold plainX; split <;> first | rfl | contradiction)
theorem plain_star {x : Expr} {xs : List Expr} {env : Env} (h : plainX x = true) : starEach (x :: xs) env = (false, eval x env) :: starEach xs env := by
  cases x <;> first | rfl | (simp [plainX] at h)
theorem plain_ix {x : Expr} (h : plainX x = true) : PlainIx x := by
  intro o i
  cases x <;> first | rfl | (simp [plainX] at h)
theorem plain_mark {x : Expr} {op : CmpOp} (h : plainX x = true) : behindInMarks op x = false := by
  cases x <;> first | rfl | (simp [plainX] at h)
theorem plain_fold {x : Expr} {env : Env} (h : plainX x = true) (v : Value) : foldedSetIterable x env v = pure v := by
  cases x <;> first | rfl | (simp [plainX] at h)
end Y

namespace Y
open PySem PySem.W PySem.Spec PyProof.Rows L2
variable [TownS]

/-! ### promises of defs, the tables -/
/-- how an exception lies behind its raising -/
abbrev EXT := Exn → Value → Option Addr → Hp → Prop
structure Par where
  K : PySem.W.Frag
  EX : EXT
def FinG {α : Type} (ok : α → Prop) (exn : Exn → Nat → Prop) : R α → Prop
  | .ok a => ok a
  | .ex x k => exn x k
  | .no => False
theorem FinG.bind {α β : Type} {ok : β → Prop} {exn : Exn → Nat → Prop} {r : R α} {f : α → R β} (h : FinG ok exn (r >>= f)) : FinG (fun a => r = .ok a ∧ FinG ok exn (f a)) exn r := by
  cases r with
  | ok a => exact ⟨rfl, h⟩
  | ex x k => exact h
  | no => exact h
theorem FinG.imp {α : Type} {ok ok' : α → Prop} {exn exn' : Exn → Nat → Prop} {r : R α} (h : FinG ok exn r) (h1 : ∀ a, ok a → ok' a) (h2 : ∀ x k, exn x k → exn' x k) : FinG ok' exn' r := by
  cases r with
  | ok a => exact h1 a h
  | ex x k => exact h2 x k h
  | no => exact h
theorem FinG.of {α β : Type} {ok : β → Prop} {exn : Exn → Nat → Prop} {o : Option α} {f : α → R β} (h : FinG ok exn (R.of o >>= f)) : ∃ a, o = some a ∧ FinG ok exn (f a) := by
  cases o with
  | some a => exact ⟨a, rfl, h⟩
  | none => exact h.elim
/-- a def whose value is told by sem -/
def spD (p : Par) (sem : List D → R D) : Sp := fun vs H Q E => ∃ (P : Addr → Prop) (ds : List D), Rps p.K (Hd H P) vs ds ∧ (∀ a, P a → H a ≠ none) ∧
  FinG (fun d => ∀ v H', Same H H' → Rp p.K (Hd H' P) v d → Q v H') (fun x _ => ∀ cls dx H', Same H H' → p.EX x cls dx H' → E cls dx H') (sem ds)
/-- a def of the law that draws -/
def spT (p : Par) (sem : List D → Nat → R (D × Nat)) : Sp := fun vs H Q E => ∃ (P : Addr → Prop) (sv : V) (t : Addr) (k : Nat) (ws : List V) (ds : List D), vs = sv :: .ref t :: ws ∧ P t ∧ H t = some (.lst (TownS.town k)) ∧ Rp p.K (Hd H P) sv TownS.scr ∧
  Rps p.K (Hd H P) ws ds ∧ (∀ a, P a → H a ≠ none) ∧
  FinG (fun r => ∀ v H', (∀ b o, b ≠ t → H b = some o → H' b = some o) → H' t = some (.lst (TownS.town r.2)) → Rp p.K (Hd H' P) v r.1 → Q v H')
    (fun x k' => ∀ cls dx H', (∀ b o, b ≠ t → H b = some o → H' b = some o) → H' t = some (.lst (TownS.town k')) → p.EX x cls dx H' → E cls dx H') (sem ds k)
structure Cnt where
  P : Program
  w : World
  mg : Str → Option Value
  base : Heap
  lev : Nat
structure SiteOk (p : Par) (c : Cnt) (st : Site) (sem : List D → R D) : Prop where
  ex : ∃ (f : Addr) (fd : FuncData) (ps : List Str) (k : Nat) (sp : Sp) (g : List Value → List Value → List Value) (gV : List V → List V → List V),
    FnOk c.P c.w p.K c.mg c.base (L2.CX c.P c.w) k f fd ps sp ∧ k ≤ c.lev ∧ c.mg st.nm = some (.ref f) ∧ PySem.W.keepIn p.K (.ref f) = true ∧ KBn p.K fd ps st.np st.kw g gV ∧
    ∀ vs zs H Q E, vs.length = st.np → zs.length = st.kw.length → spD p sem (vs ++ zs) H Q E → sp (gV vs zs) H Q E
structure SiteT (p : Par) (c : Cnt) (nm : Str) (sem : List D → Nat → R (D × Nat)) : Prop where
  ex : ∃ (f : Addr) (fd : FuncData) (ps : List Str) (k : Nat), FnOk c.P c.w p.K c.mg c.base (L2.CX c.P c.w) k f fd ps (spT p sem) ∧ k ≤ c.lev ∧ c.mg nm = some (.ref f) ∧ PySem.W.keepIn p.K (.ref f) = true ∧ Binds p.K fd ps []
structure Tab (p : Par) (c : Cnt) (C : Ck) (g : G) : Prop where
  site : ∀ j st, C.cs j = some st → SiteOk p c st (g.fn j)
  siteT : ∀ j nm, C.ct j = some nm → SiteT p c nm (g.fnT j)
  gl : ∀ j x, C.gn j = some x → ∃ v u, c.mg x = some u ∧ RelV v u ∧ ∀ H, Rp p.K H v (g.gl j)
  bl : ∀ x, x ∈ C.bl → c.mg x = none
  tw : g.tw = TownS.tw
  scr : g.scr = TownS.scr
structure Good (p : Par) (c : Cnt) (C : Ck) (g : G) (X : Cx) (W : WX) : Prop where
  prog : X.prog = c.P
  w : X.w = c.w
  K : X.K = p.K
  mg : X.mg = c.mg
  base : X.base = c.base
  N : X.N = C.N
  nd : C.N.Nodup
  calm : X.calm = true
  tk : Takes X W
  room : Room c.lev X.A
  lev : 0 < c.lev
  tab : Tab p c C g
section
variable {p : Par} {c : Cnt} {C : Ck} {g : G} {X : Cx} {W : WX}
theorem Good.blk (G : Good p c C g X W) (s : Shared) (H : Hp) (scope : Scope) (cenv : Env) (fp : List Addr) : Good p c C g (X.blk s H scope cenv fp) (fun _ _ _ _ => False) :=
  ⟨G.prog, G.w, G.K, G.mg, G.base, G.N, G.nd, G.calm, takes0, G.room, G.lev, G.tab⟩
theorem Good.u65 (G : Good p c C g X W) : X.A.units + 65 < cLine := by
  have h1 := G.room.un
  have h2 := G.lev
  have := G.room.units
  omega
end
/-- what is wanted of an exception on the way -/
def XP (p : Par) (W : WX) (B : Bs) (own : Nat → Option Addr) (ρ : Rho) (σ : L2.St) (H : Hp) (x : Exn) (k : Nat) : Prop :=
  ∀ cls dx H', ER p.K B own ρ k σ H' → Stp B H H' → p.EX x cls dx H' → W cls dx σ H'
def OK (p : Par) (B : Bs) (own : Nat → Option Addr) (ρ : Rho) (σ : L2.St) (H : Hp) (kd : Kd) (Q : VK) (r : D × Nat) : Prop :=
  ∀ v H', ER p.K B own ρ r.2 σ H' → Stp B H H' → RV p.K B own H H' kd v r.1 → Q v H'
/-- an expression's reading -/
def tE (p : Par) (W : WX) (g : G) (e : E) : TE := fun σ H Q => ∃ B own ρ k, ER p.K B own ρ k σ H ∧ FinG (OK p B own ρ σ H (kdOf ρ e) Q) (XP p W B own ρ σ H) (ev g e ρ k)
/-- a test's -/
def OKT (p : Par) (B : Bs) (own : Nat → Option Addr) (ρ : Rho) (σ : L2.St) (H : Hp) (Q : Bool → Hp → Prop) (r : D × Nat) : Prop :=
  ∃ b, truD r.1 = some b ∧ ∀ H', ER p.K B own ρ r.2 σ H' → Stp B H H' → Q b H'
def tT (p : Par) (W : WX) (g : G) (e : E) : TT := fun σ H Q => ∃ B own ρ k, ER p.K B own ρ k σ H ∧ FinG (OKT p B own ρ σ H Q) (XP p W B own ρ σ H) (ev g e ρ k)
/-- some expressions', from the left -/
def RVs (p : Par) (B : Bs) (own : Nat → Option Addr) (ρ : Rho) (H' : Hp) : Es → List V → List D → Prop
  | .nil, [], [] => True
  | .cons e es, v :: vs, d :: ds => (∃ H, RV p.K B own H H' (kdOf ρ e) v d) ∧ RVs p B own ρ H' es vs ds
  | _, _, _ => False
def OKS (p : Par) (B : Bs) (own : Nat → Option Addr) (ρ : Rho) (σ : L2.St) (H : Hp) (es : Es) (Q : List V → Hp → Prop) (r : List D × Nat) : Prop :=
  ∀ vs H', ER p.K B own ρ r.2 σ H' → Stp B H H' → RVs p B own ρ H' es vs r.1 → Q vs H'
def tA (p : Par) (W : WX) (g : G) (es : Es) : TA := fun σ H Q => ∃ B own ρ k, ER p.K B own ρ k σ H ∧ FinG (OKS p B own ρ σ H es Q) (XP p W B own ρ σ H) (evs g es ρ k)
section
variable {p : Par} {W : WX} {B : Bs} {own : Nat → Option Addr} {ρ : Rho} {k k1 : Nat} {σ : L2.St} {H H1 H' : Hp} {kd : Kd} {Q : VK} {g : G} {e : E} {es : Es}
theorem XP.later (s : Stp B H H1) {x : Exn} (h : XP p W B own ρ σ H x k) : XP p W B own ρ σ H1 x k := fun cls dx H' er s' q => h cls dx H' er (s.trans s') q
theorem OK.later (s : Stp B H H1) (er : ER p.K B own ρ k σ H) (er1 : ER p.K B own ρ k1 σ H1) {r : D × Nat} (h : OK p B own ρ σ H kd Q r) : OK p B own ρ σ H1 kd Q r := fun v H' er' s' q => h v H' er' (s.trans s') (RV.from s er er1 q)
theorem OKT.later (s : Stp B H H1) {Q : Bool → Hp → Prop} {r : D × Nat} (h : OKT p B own ρ σ H Q r) : OKT p B own ρ σ H1 Q r := by
  obtain ⟨b, e, h⟩ := h
  exact ⟨b, e, fun H' er' s' => h H' er' (s.trans s')⟩
theorem OKS.later (s : Stp B H H1) {Q : List V → Hp → Prop} {r : List D × Nat} (h : OKS p B own ρ σ H es Q r) : OKS p B own ρ σ H1 es Q r := fun v H' er' s' q => h v H' er' (s.trans s') q
/-- what a finished part gives the next -/
theorem tE.mk (er : ER p.K B own ρ k σ H) (h : FinG (OK p B own ρ σ H (kdOf ρ e) Q) (XP p W B own ρ σ H) (ev g e ρ k)) : tE p W g e σ H Q := ⟨B, own, ρ, k, er, h⟩
/-- an expression ahead of what follows -/
theorem tE.bind {β : Type} {okβ : Hp → β → Prop} {f : D × Nat → R β} (er : ER p.K B own ρ k σ H) (h : FinG (okβ H) (XP p W B own ρ σ H) (ev g e ρ k >>= f))
    (later : ∀ H1 k1 r, Stp B H H1 → ER p.K B own ρ k1 σ H1 → okβ H r → okβ H1 r)
    (next : ∀ d k1 v H1, ER p.K B own ρ k1 σ H1 → Stp B H H1 → RV p.K B own H H1 (kdOf ρ e) v d → FinG (okβ H1) (XP p W B own ρ σ H1) (f (d, k1)) → Q v H1) : tE p W g e σ H Q := by
  refine tE.mk er (h.bind.imp (fun a ha v H1 er1 s1 q1 => ?_) fun _ _ x => x)
  exact next a.1 a.2 v H1 er1 s1 q1 (ha.2.imp (fun r hr => later H1 a.2 r s1 er1 hr) fun x k hx => hx.later s1)
theorem tA.bind {β : Type} {okβ : Hp → β → Prop} {f : List D × Nat → R β} {Q : List V → Hp → Prop} (er : ER p.K B own ρ k σ H) (h : FinG (okβ H) (XP p W B own ρ σ H) (evs g es ρ k >>= f))
    (later : ∀ H1 k1 r, Stp B H H1 → ER p.K B own ρ k1 σ H1 → okβ H r → okβ H1 r)
    (next : ∀ d k1 v H1, ER p.K B own ρ k1 σ H1 → Stp B H H1 → RVs p B own ρ H1 es v d → FinG (okβ H1) (XP p W B own ρ σ H1) (f (d, k1)) → Q v H1) : tA p W g es σ H Q := by
  refine ⟨B, own, ρ, k, er, h.bind.imp (fun a ha v H1 er1 s1 q1 => ?_) fun _ _ x => x⟩
  exact next a.1 a.2 v H1 er1 s1 q1 (ha.2.imp (fun r hr => later H1 a.2 r s1 er1 hr) fun x k hx => hx.later s1)
/-- a new datum is the answer -/
theorem OK.wn {z : D} {kd : Kd} (er : ER p.K B own ρ k σ H) (h : OK p B own ρ σ H kd Q (z, k)) (hk : kd ≠ .fr) : Wn p.K B own H z Q := fun v H' s q => h v H' (er.same s) (Stp.same s) (RV.of_pl q hk)
theorem RVs.all (r : ER p.K B own ρ k σ H) : ∀ {es : Es} {vs : List V} {ds : List D}, RVs p B own ρ H es vs ds → Rps p.K (Hd H B.P0) vs ds
  | .nil, [], [], _ => .nil
  | .cons e es, v :: vs, d :: ds, ⟨⟨H0, q⟩, h⟩ => .cons (q.weak r) (RVs.all r h)
  | .nil, [], _ :: _, h => h.elim
  | .nil, _ :: _, _, h => h.elim
  | .cons _ _, [], _, h => h.elim
  | .cons _ _, _ :: _, [], h => h.elim
theorem RVs.plain : ∀ {es : Es} {vs : List V} {ds : List D}, RVs p B own ρ H es vs ds → anyTr ρ es = false → Rps p.K (Hd H (hid B own)) vs ds
  | .nil, [], [], _, _ => .nil
  | .cons e es, v :: vs, d :: ds, ⟨⟨H0, q⟩, h⟩, ht => by
    rw [anyTr, Bool.or_eq_false_iff] at ht
    exact .cons (q.plain (of_decide_eq_false ht.1)) (RVs.plain h ht.2)
  | .nil, [], _ :: _, h, _ => h.elim
  | .nil, _ :: _, _, h, _ => h.elim
  | .cons _ _, [], _, h, _ => h.elim
  | .cons _ _, _ :: _, [], h, _ => h.elim
theorem RVs.later (s : Stp B H H1) (r : ER p.K B own ρ k σ H) : ∀ {es : Es} {vs : List V} {ds : List D}, RVs p B own ρ H es vs ds → RVs p B own ρ H1 es vs ds
  | .nil, [], [], _ => trivial
  | .cons e es, v :: vs, d :: ds, ⟨⟨H0, q⟩, h⟩ => ⟨⟨H0, q.later r s⟩, RVs.later s r h⟩
  | .nil, [], _ :: _, h => h.elim
  | .nil, _ :: _, _, h => h.elim
  | .cons _ _, [], _, h => h.elim
  | .cons _ _, _ :: _, [], h => h.elim
end
end Y

namespace Y
open PySem PySem.W PySem.Spec PyProof.Rows L2
variable [TownS]

theorem _root_.L2.PE.imp {X : Cx} {e : Expr} {t t' : TE} (h : PE X e t) (i : ∀ σ H Q, t' σ H Q → t σ H Q) : PE X e t' := ⟨fun pins s σ H Q I q => h.run pins s σ H Q I (i σ H Q q)⟩
theorem _root_.L2.PT.imp {X : Cx} {e : Expr} {t t' : TT} (h : PT X e t) (i : ∀ σ H Q, t' σ H Q → t σ H Q) : PT X e t' := ⟨fun pins s σ H Q I q => h.run pins s σ H Q I (i σ H Q q)⟩
theorem _root_.L2.PW.imp {X : Cx} {e : Expr} {t t' : TT} (h : PW X e t) (i : ∀ σ H Q, t' σ H Q → t σ H Q) : PW X e t' := ⟨fun w pins s σ H Q I q => h.run w pins s σ H Q I (i σ H Q q)⟩
theorem _root_.L2.PA.imp {X : Cx} {e : List Expr} {t t' : TA} (h : PA X e t) (i : ∀ σ H Q, t' σ H Q → t σ H Q) : PA X e t' := ⟨fun pos pins s σ H Q I q => h.run pos pins s σ H Q I (i σ H Q q)⟩
theorem vis_of {sc : Scope} {x : Str} (h : visB sc x = true) : Vis sc x := by
  unfold visB at h
  split at h
  · exact .inl (by assumption)
  · exact .inr (.inl (by assumption))
  · exact .inr (.inr (by assumption))
  · cases h
theorem gl_of {X : Cx} {x : Str} (h : glB X.env.scope x = true) : Gl X x := by
  unfold glB at h
  have q := of_decide_eq_true h
  exact q
theorem nm_of {x : Str} (h : nmOk x = true) : (x == ("__debug__" : Str)) = false ∧ (x == ("__classdict__" : Str)) = false ∧ x ≠ ("__name__" : Str) := by
  unfold nmOk at h
  simp only [Bool.and_eq_true, Bool.not_eq_true'] at h
  refine ⟨h.1.1, h.1.2, fun e => ?_⟩
  rw [e] at h
  simp at h
section
variable {p : Par} {c : Cnt} {C : Ck} {g : G} {X : Cx} {W : WX} {pos : Pos}
theorem tK (G : Good p c C g X W) : X.K = p.K := G.K
/-- the truth of what an expression gives -/
theorem pt_of (G : Good p c C g X W) {e : E} {x : Expr} (h : PE X x (tE p W g e)) (he : ∀ whole, isTrue x X.env whole = (do let v ← whole; standAt x.pos; holding [v] (truthy v))) : PT X x (tT p W g e) := by
  refine (pt_truth h he).imp fun σ H Q ⟨B, own, ρ, k, er, f⟩ => ⟨B, own, ρ, k, er, f.imp (fun r ⟨b, e, q⟩ v H' er' s qv => ?_) fun _ _ x => x⟩
  refine ⟨b, ?_, q H' er' s⟩
  rw [G.K]
  exact truV_of er' qv e
theorem c_var (G : Good p c C g X W) {i : Nat} {x : Str} (h : C.N[i]? = some x) (hv : visB X.env.scope x = true) (hn : nmOk x = true) : PE X (.Name x pos) (tE p W g (.var i)) := by
  refine (pe_var (i := i) (by rw [G.N]; exact h) (vis_of hv) (nm_of hn).1 (nm_of hn).2.1).imp fun σ H Q ⟨B, own, ρ, k, er, f⟩ => ?_
  unfold ev at f
  cases e : ρ[i]? with
  | none => rw [e] at f; exact f.elim
  | some o =>
    cases o with
    | none => rw [e] at f; exact f.elim
    | some sv =>
      obtain ⟨v, e1, q⟩ := er.slot i sv e
      rw [e] at f
      have kd : ∀ {kk}, (match (some (some sv) : Option (Option SV)) with | some (some (.own _)) => Kd.tr | some (some (.ownd _ _)) => Kd.tr | _ => Kd.pl) = kk → kdOf ρ (.var i) = kk := fun h => by
        unfold kdOf
        rw [e]
        exact h
      refine ⟨v, e1, ?_⟩
      cases sv with
      | d x => exact f v H er Stp.refl (by rw [kd rfl]; exact q)
      | own l =>
        obtain ⟨a, h1, h2, h3⟩ := q
        exact f v H er Stp.refl (by rw [kd rfl]; exact .inr ⟨i, a, h1, h2, .inl ⟨l, rfl, h3⟩⟩)
      | ownd t l =>
        obtain ⟨a, h1, h2, h3⟩ := q
        simp only at f
        split at f
        · rename_i ht
          subst ht
          exact f v H er Stp.refl (by rw [kd rfl]; exact .inr ⟨i, a, h1, h2, .inr ⟨l, rfl, h3⟩⟩)
        · exact f.elim
      | town => exact f.elim
      | scr =>
        have f : OK p B own ρ σ H (kdOf ρ (.var i)) Q (g.scr, k) := f
        rw [G.tab.scr] at f
        exact f v H er Stp.refl (by rw [kd rfl]; exact q)
theorem c_cst (G : Good p c C g X W) {d : D} {k : Const} {j : Nat} (h : cstOk d k = true) : PE X (.Constant k j pos) (tE p W g (.cst d)) := by
  have fin : ∀ {v : V} {σ H Q}, (∀ G, Rp p.K G v d) → tE p W g (.cst d) σ H Q → Q v H := fun {v σ H Q} hv ⟨B, own, ρ, k, er, f⟩ => by
    unfold ev at f
    exact f v H er Stp.refl (hv _)
  unfold cstOk at h
  split at h
  · exact pe_non.imp fun σ H Q q => fin (fun _ => .non) q
  · have e := of_decide_eq_true h
    subst e
    exact pe_bl.imp fun σ H Q q => fin (fun _ => .bl _) q
  · have e := of_decide_eq_true h
    subst e
    exact pe_int.imp fun σ H Q q => fin (fun _ => .int _) q
  · rw [Bool.and_eq_true] at h
    have e := of_decide_eq_true h.1
    subst e
    have s := h.2
    unfold strOkB at s
    rw [Bool.and_eq_true] at s
    exact pe_str.imp fun σ H Q q => fin (fun _ => .str _ ⟨s.1, lim_le s.2⟩) q
  · cases h
theorem c_glb (G : Good p c C g X W) {j : Nat} {x : Str} (h : C.gn j = some x) (hv : glB X.env.scope x = true) (hn : nmOk x = true) : PE X (.Name x pos) (tE p W g (.glb j)) := by
  obtain ⟨v, u, h1, h2, h3⟩ := G.tab.gl j x h
  refine (pe_glob (gl_of hv) (by rw [G.mg]; exact h1) h2 (nm_of hn).1).imp fun σ H Q ⟨B, own, ρ, k, er, f⟩ => ?_
  unfold ev at f
  exact f v H er Stp.refl (h3 _)
theorem c_nil (G : Good p c C g X W) : PA X [] (tA p W g .nil) := pa_nil.imp fun σ H Q ⟨B, own, ρ, k, er, f⟩ => by
  unfold evs at f
  exact f [] H er Stp.refl trivial
theorem c_cons (G : Good p c C g X W) {e : E} {es : Es} {x : Expr} {xs : List Expr} (h : PE X x (tE p W g e)) (hs : PA X xs (tA p W g es)) (hx : plainX x = true) : PA X (x :: xs) (tA p W g (.cons e es)) :=
  (pa_cons h hs (plain_star hx)).imp fun σ H Q ⟨B, own, ρ, k, er, f⟩ => by
    unfold evs at f
    refine tE.bind (okβ := fun H r => OKS p B own ρ σ H (.cons e es) Q r) er f (fun H1 k1 r s _ h => h.later s) fun d k1 v H1 er1 s1 q1 f => ?_
    refine tA.bind (okβ := fun H r => OKS p B own ρ σ H (.cons e es) Q r) er1 f (fun H1 k1 r s _ h => h.later s) fun ds k2 vs H2 er2 s2 q2 f => ?_
    exact f (v :: vs) H2 er2 Stp.refl ⟨⟨_, q1.later er1 s2⟩, q2⟩
theorem c_tup (G : Good p c C g X W) {es : Es} {xs : List Expr} {kk : Nat} (h : PA X xs (tA p W g es)) (hl : lim xs.length = true) (hn : ∀ ds k g ρ r, evs g es ρ k = .ok (ds, r) → ds.length = xs.length) : PE X (.Tuple xs kk pos) (tE p W g (.tup es)) :=
  (pe_tup h).imp fun σ H Q ⟨B, own, ρ, k, er, f⟩ => by
    unfold ev at f
    cases ht : anyTr ρ es with
    | true => rw [ht] at f; exact f.elim
    | false =>
      rw [ht] at f
      refine ⟨B, own, ρ, k, er, FinG.imp (FinG.bind f) (fun a ha vs H1 er1 s1 q1 => ?_) fun _ _ x => x⟩
      have hq := q1.plain ht
      have hz : vs.length ≤ sizeLine := hq.len (by rw [hn _ _ _ _ _ ha.1]; exact hl)
      have hf : OK p B own ρ σ H (kdOf ρ (.tup es)) Q (.tuple a.1, a.2) := ha.2
      exact ⟨hz, fun g hg => (OK.wn er1 (OK.later s1 er er1 hf) (by unfold kdOf; simp)).tup er1 hg hz hq⟩
theorem c_lst (G : Good p c C g X W) {es : Es} {xs : List Expr} (h : PA X xs (tA p W g es)) (hl : lim xs.length = true) (hn : ∀ ds k g ρ r, evs g es ρ k = .ok (ds, r) → ds.length = xs.length) : PE X (.List xs pos) (tE p W g (.lst es)) :=
  (pe_lst h).imp fun σ H Q ⟨B, own, ρ, k, er, f⟩ => by
    unfold ev at f
    cases ht : anyTr ρ es with
    | true => rw [ht] at f; exact f.elim
    | false =>
      rw [ht] at f
      refine ⟨B, own, ρ, k, er, FinG.imp (FinG.bind f) (fun a ha vs H1 er1 s1 q1 => ?_) fun _ _ x => x⟩
      have hq := q1.plain ht
      have hz : vs.length ≤ sizeLine := hq.len (by rw [hn _ _ _ _ _ ha.1]; exact hl)
      have hf : OK p B own ρ σ H .fr Q (.list a.1, a.2) := ha.2
      exact ⟨hz, fun g hg => OK.later s1 er er1 hf _ _ (er1.alloc hg) (Stp.same (same_new hg)) (new_fr er1 hg hz hq)⟩
theorem c_bin (G : Good p c C g X W) {o : Bin} {a b : E} {x y : Expr} (ha : PE X x (tE p W g a)) (hb : PE X y (tE p W g b)) : PE X (.BinOp x (binOp o) y pos) (tE p W g (.bin o a b)) :=
  (pe_op (op_bin o) ha hb).imp fun σ H Q ⟨B, own, ρ, k, er, f⟩ => by
    unfold ev at f
    have kd : kdOf ρ (.bin o a b) = .pl := by cases o <;> rfl
    rw [kd] at f
    refine tE.bind (okβ := fun H r => OK p B own ρ σ H .pl Q r) er f (fun H1 k1 r s er1 h => h.later s er er1) fun d k1 v H1 er1 s1 q1 f => ?_
    refine tE.bind (okβ := fun H r => OK p B own ρ σ H .pl Q r) er1 f (fun H2 k2 r s er2 h => h.later s er1 er2) fun e k2 u H2 er2 s2 q2 f => ?_
    obtain ⟨z, hz, f⟩ := FinG.of f
    rw [G.K]
    exact rBin_of er2 (q1.later er1 s2) q2 hz (OK.wn er2 f (by simp))
theorem c_cmp (G : Good p c C g X W) {o : CmpOp} {a b : E} {x y : Expr} (ha : PE X x (tE p W g a)) (hb : PE X y (tE p W g b)) (hy : plainX y = true) : PE X (.Compare x [o] [y] pos) (tE p W g (.cmp o a b)) :=
  (pe_cmpR (op_cmp G.u65 o) ha hb (plain_mark hy)).imp fun σ H Q ⟨B, own, ρ, k, er, f⟩ => by
    unfold ev at f
    refine tE.bind (okβ := fun H r => OK p B own ρ σ H .pl Q r) er f (fun H1 k1 r s er1 h => h.later s er er1) fun d k1 v H1 er1 s1 q1 f => ?_
    refine tE.bind (okβ := fun H r => OK p B own ρ σ H .pl Q r) er1 f (fun H2 k2 r s er2 h => h.later s er1 er2) fun e k2 u H2 er2 s2 q2 f => ?_
    obtain ⟨z, hz, f⟩ := FinG.of f
    rw [G.K]
    exact rCmp_of er2 (q1.later er1 s2) q2 hz (f _ _ er2 Stp.refl (.bl z))
theorem c_cmpT (G : Good p c C g X W) {o : CmpOp} {a b : E} {x y : Expr} (ha : PE X x (tE p W g a)) (hb : PE X y (tE p W g b)) (hy : plainX y = true) : PT X (.Compare x [o] [y] pos) (tT p W g (.cmp o a b)) :=
  (pt_cmpR (op_cmp G.u65 o) ha hb (plain_mark hy)).imp fun σ H Q ⟨B, own, ρ, k, er, f⟩ => by
    unfold ev at f
    refine tE.bind (okβ := fun H r => OKT p B own ρ σ H Q r) er f (fun H1 k1 r s er1 h => h.later s) fun d k1 v H1 er1 s1 q1 f => ?_
    refine tE.bind (okβ := fun H r => OKT p B own ρ σ H Q r) er1 f (fun H2 k2 r s er2 h => h.later s) fun e k2 u H2 er2 s2 q2 f => ?_
    obtain ⟨z, hz, f⟩ := FinG.of f
    obtain ⟨b', e', f⟩ : OKT p B own ρ σ H2 Q (.bool z, k2) := f
    cases e'
    rw [G.K]
    exact rCmp_of er2 (q1.later er1 s2) q2 hz ⟨z, rfl, f H2 er2 Stp.refl⟩
end
end Y

namespace Y
open PySem PySem.W PySem.Spec PyProof.Rows L2
variable [TownS]
section
variable {K : PySem.W.Frag} {B : Bs} {own : Nat → Option Addr} {ρ : Rho} {k k' : Nat} {σ : L2.St} {H H1 H' : Hp} {v : V} {d : D} {kd kd' : Kd}
theorem RV.to_tr (q : RV K B own H H' kd v d) : RV K B own H H' .tr v d := by
  cases kd with
  | tr => exact q
  | pl => exact .inl q
  | fr => exact .inl (RV.plain q (by simp))
theorem RV.joinl (q : RV K B own H H' kd v d) : RV K B own H H' (kd.join kd') v d := by
  cases kd <;> cases kd' <;> first | exact q.to_tr | exact q.plain (by simp)
theorem RV.joinr (q : RV K B own H H' kd' v d) : RV K B own H H' (kd.join kd') v d := by
  cases kd <;> cases kd' <;> first | exact q.to_tr | exact q.plain (by simp)
end
theorem join_ne (a b : Kd) : a.join b ≠ .fr := by cases a <;> cases b <;> simp [Kd.join]
theorem RV.noH {K : PySem.W.Frag} {B : Bs} {own : Nat → Option Addr} {H H1 H2 : Hp} {kd : Kd} {v : V} {d : D} (h : kd ≠ .fr) (q : RV K B own H H1 kd v d) : RV K B own H2 H1 kd v d := by
  cases kd with
  | pl => exact q
  | tr => exact q
  | fr => exact absurd rfl h
section
variable {p : Par} {c : Cnt} {C : Ck} {g : G} {X : Cx} {W : WX} {pos : Pos}
theorem marks2 {o o' : CmpOp} {y z : Expr} (hz : plainX z = true) : lastMarks [o, o'] [y, z] = false := by
  show behindInMarks o' z = false
  exact plain_mark hz
theorem c_chn (G : Good p c C g X W) {o o' : CmpOp} {a b e : E} {x y z : Expr} (ha : PE X x (tE p W g a)) (hb : PE X y (tE p W g b)) (hc : PE X z (tE p W g e)) (hz : plainX z = true) :
    PE X (.Compare x [o, o'] [y, z] pos) (tE p W g (.chn o o' a b e)) :=
  (pe_chain (op_cmp G.u65 o) (op_cmp G.u65 o') ha hb hc (marks2 hz)).imp fun σ H Q ⟨B, own, ρ, k, er, f⟩ => by
    unfold ev at f
    refine tE.bind (okβ := fun H r => OK p B own ρ σ H .pl Q r) er f (fun H1 k1 r s er1 h => h.later s er er1) fun d k1 v H1 er1 s1 q1 f => ?_
    refine tE.bind (okβ := fun H r => OK p B own ρ σ H .pl Q r) er1 f (fun H2 k2 r s er2 h => h.later s er1 er2) fun e' k2 u H2 er2 s2 q2 f => ?_
    obtain ⟨t, ht, f⟩ := FinG.of f
    rw [G.K]
    refine rCmp_of er2 (q1.later er1 s2) q2 ht ⟨t, rfl, ?_⟩
    cases t with
    | false =>
      have f : OK p B own ρ σ H2 .pl Q (.bool false, k2) := f
      exact iteF (f _ _ er2 Stp.refl (.bl false))
    | true =>
      refine iteT ?_
      refine tE.bind (okβ := fun H r => OK p B own ρ σ H .pl Q r) er2 f (fun H3 k3 r s er3 h => h.later s er2 er3) fun e3 k3 u3 H3 er3 s3 q3 f => ?_
      obtain ⟨t, ht, f⟩ := FinG.of f
      exact rCmp_of er3 (q2.later er2 s3) q3 ht (f _ _ er3 Stp.refl (.bl t))
theorem c_chnT (G : Good p c C g X W) {o o' : CmpOp} {a b e : E} {x y z : Expr} (ha : PE X x (tE p W g a)) (hb : PE X y (tE p W g b)) (hc : PE X z (tE p W g e)) (hz : plainX z = true) :
    PT X (.Compare x [o, o'] [y, z] pos) (tT p W g (.chn o o' a b e)) :=
  (pt_chain (op_cmp G.u65 o) (op_cmp G.u65 o') ha hb hc (marks2 hz)).imp fun σ H Q ⟨B, own, ρ, k, er, f⟩ => by
    unfold ev at f
    refine tE.bind (okβ := fun H r => OKT p B own ρ σ H Q r) er f (fun H1 k1 r s er1 h => h.later s) fun d k1 v H1 er1 s1 q1 f => ?_
    refine tE.bind (okβ := fun H r => OKT p B own ρ σ H Q r) er1 f (fun H2 k2 r s er2 h => h.later s) fun e' k2 u H2 er2 s2 q2 f => ?_
    obtain ⟨t, ht, f⟩ := FinG.of f
    rw [G.K]
    refine rCmp_of er2 (q1.later er1 s2) q2 ht ⟨t, rfl, ?_⟩
    cases t with
    | false =>
      obtain ⟨b', e', f⟩ : OKT p B own ρ σ H2 Q (.bool false, k2) := f
      cases e'
      exact iteF ⟨false, rfl, f H2 er2 Stp.refl⟩
    | true =>
      refine iteT ?_
      refine tE.bind (okβ := fun H r => OKT p B own ρ σ H Q r) er2 f (fun H3 k3 r s er3 h => h.later s) fun e3 k3 u3 H3 er3 s3 q3 f => ?_
      obtain ⟨t, ht, f⟩ := FinG.of f
      obtain ⟨b', e', f⟩ : OKT p B own ρ σ H3 Q (.bool t, k3) := f
      cases e'
      exact rCmp_of er3 (q2.later er2 s3) q3 ht ⟨t, rfl, f H3 er3 Stp.refl⟩
theorem c_nt (G : Good p c C g X W) {a : E} {x : Expr} (ha : PE X x (tE p W g a)) : PE X (.UnaryOp .Not x pos) (tE p W g (.nt a)) :=
  (pe_notT ha).imp fun σ H Q ⟨B, own, ρ, k, er, f⟩ => by
    unfold ev at f
    refine tE.bind (okβ := fun H r => OK p B own ρ σ H .pl Q r) er f (fun H1 k1 r s er1 h => h.later s er er1) fun d k1 v H1 er1 s1 q1 f => ?_
    obtain ⟨t, ht, f⟩ := FinG.of f
    rw [G.K]
    exact ⟨t, truV_of er1 q1 ht, f _ _ er1 Stp.refl (.bl (!t))⟩
theorem c_ntT (G : Good p c C g X W) {a : E} {x : Expr} (ha : PT X x (tT p W g a)) : PT X (.UnaryOp .Not x pos) (tT p W g (.nt a)) :=
  (pt_not ha).imp fun σ H Q ⟨B, own, ρ, k, er, f⟩ => by
    unfold ev at f
    refine ⟨B, own, ρ, k, er, FinG.imp (FinG.bind f) (fun r hr => ?_) fun _ _ x => x⟩
    obtain ⟨t, ht, f⟩ := FinG.of hr.2
    obtain ⟨b', e', f⟩ : OKT p B own ρ σ H Q (.bool (!t), r.2) := f
    cases e'
    exact ⟨t, ht, f⟩
theorem c_neg (G : Good p c C g X W) {a : E} {x : Expr} (ha : PE X x (tE p W g a)) : PE X (.UnaryOp .USub x pos) (tE p W g (.neg a)) :=
  (pe_un un_neg ha).imp fun σ H Q ⟨B, own, ρ, k, er, f⟩ => by
    unfold ev at f
    refine tE.bind (okβ := fun H r => OK p B own ρ σ H .pl Q r) er f (fun H1 k1 r s er1 h => h.later s er er1) fun d k1 v H1 er1 s1 q1 f => ?_
    obtain ⟨i, hi, f⟩ := FinG.of f
    have e : d = .int i := by cases d <;> simp [intOf] at hi; rw [hi]
    subst e
    rw [(q1.weak er1).int_inv]
    exact ⟨i, rfl, f _ _ er1 Stp.refl (.int (-i))⟩
theorem c_one {op : BoolOp} {a : E} {x : Expr} (ha : PE X x (tE p W g a)) : PE X (.BoolOp op [x] pos) (tE p W g a) := pe_one ha
theorem c_oneT {op : BoolOp} {a : E} {x : Expr} (ha : PT X x (tT p W g a)) : PW X (.BoolOp op [x] pos) (tT p W g a) := by
  cases op with
  | And => exact pw_and1 ha
  | Or => exact pw_or1 ha
theorem c_bop (G : Good p c C g X W) {isOr : Bool} {op : BoolOp} (ho : op = if isOr then .Or else .And) {a b : E} {x y : Expr} {r : List Expr} (ha : PE X x (tE p W g a)) (hb : PE X (.BoolOp op (y :: r) pos) (tE p W g b)) :
    PE X (.BoolOp op (x :: y :: r) pos) (tE p W g (.bop isOr a b)) := by
  have core : ∀ (σ : L2.St) (H : Hp) (Q : VK), tE p W g (.bop isOr a b) σ H Q → tE p W g a σ H fun v H1 => ∃ t, TruV X.K v H1 t ∧ if t = isOr then Q v H1 else tE p W g b σ H1 Q := fun σ H Q ⟨B, own, ρ, k, er, f⟩ => by
    unfold ev at f
    refine tE.bind (okβ := fun H r => OK p B own ρ σ H (kdOf ρ (.bop isOr a b)) Q r) er f (fun H1 k1 r s er1 h => h.later s er er1) fun d k1 v H1 er1 s1 q1 f => ?_
    obtain ⟨t, ht, f⟩ := FinG.of f
    rw [G.K]
    refine ⟨t, truV_of er1 q1 ht, ?_⟩
    by_cases e : t = isOr
    · rw [if_pos e] at f ⊢
      have f : OK p B own ρ σ H1 (kdOf ρ (.bop isOr a b)) Q (d, k1) := f
      exact f v H1 er1 Stp.refl (RV.noH (join_ne _ _) q1.joinl)
    · rw [if_neg e] at f ⊢
      exact ⟨B, own, ρ, k1, er1, f.imp (fun r hr v H' er' s' q' => hr v H' er' s' (RV.noH (join_ne _ _) q'.joinr)) fun _ _ x => x⟩
  subst ho
  cases isOr with
  | true =>
    refine (pe_orT (pos := pos) (rest := r) ha hb).imp fun σ H Q q => ?_
    obtain ⟨B, own, ρ, k, er, f⟩ := core σ H Q q
    refine ⟨B, own, ρ, k, er, f.imp (fun a ha v H' er' s' q' => ?_) fun _ _ x => x⟩
    obtain ⟨t, h1, h2⟩ := ha v H' er' s' q'
    exact ⟨t, h1, h2⟩
  | false =>
    refine (pe_andT (pos := pos) (rest := r) ha hb).imp fun σ H Q q => ?_
    obtain ⟨B, own, ρ, k, er, f⟩ := core σ H Q q
    refine ⟨B, own, ρ, k, er, f.imp (fun a ha v H' er' s' q' => ?_) fun _ _ x => x⟩
    obtain ⟨t, h1, h2⟩ := ha v H' er' s' q'
    refine ⟨t, h1, ?_⟩
    cases t with
    | true => rw [if_neg (by decide)] at h2; exact iteT h2
    | false => rw [if_pos rfl] at h2; exact iteF h2
theorem tT.bind {β : Type} {B : Bs} {own : Nat → Option Addr} {ρ : Rho} {k : Nat} {σ : L2.St} {H : Hp} {e : E} {okβ : Hp → β → Prop} {f : D × Nat → R β} {Q : Bool → Hp → Prop} (er : ER p.K B own ρ k σ H) (h : FinG (okβ H) (XP p W B own ρ σ H) (ev g e ρ k >>= f))
    (later : ∀ H1 k1 r, Stp B H H1 → ER p.K B own ρ k1 σ H1 → okβ H r → okβ H1 r)
    (next : ∀ d k1, FinG (okβ H) (XP p W B own ρ σ H) (f (d, k1)) → ∃ b, truD d = some b ∧ ∀ H1, ER p.K B own ρ k1 σ H1 → Stp B H H1 → FinG (okβ H1) (XP p W B own ρ σ H1) (f (d, k1)) → Q b H1) : tT p W g e σ H Q := by
  refine ⟨B, own, ρ, k, er, h.bind.imp (fun a ha => ?_) fun _ _ x => x⟩
  obtain ⟨b, hb, q⟩ := next a.1 a.2 ha.2
  exact ⟨b, hb, fun H1 er1 s1 => q H1 er1 s1 (ha.2.imp (fun r hr => later H1 a.2 r s1 er1 hr) fun x k hx => hx.later s1)⟩
theorem c_bopT (G : Good p c C g X W) {isOr : Bool} {op : BoolOp} (ho : op = if isOr then .Or else .And) {a b : E} {x y : Expr} {r : List Expr} (ha : PT X x (tT p W g a)) (hb : PW X (.BoolOp op (y :: r) pos) (tT p W g b)) :
    PW X (.BoolOp op (x :: y :: r) pos) (tT p W g (.bop isOr a b)) := by
  have core : ∀ (σ : L2.St) (H : Hp) (Q : Bool → Hp → Prop), tT p W g (.bop isOr a b) σ H Q → tT p W g a σ H fun t H1 => if t = isOr then Q t H1 else tT p W g b σ H1 Q := fun σ H Q ⟨B, own, ρ, k, er, f⟩ => by
    unfold ev at f
    refine tT.bind (okβ := fun H r => OKT p B own ρ σ H Q r) er f (fun H1 k1 r s er1 h => h.later s) fun d k1 f => ?_
    obtain ⟨t, ht, _⟩ := FinG.of f
    refine ⟨t, ht, fun H1 er1 s1 f => ?_⟩
    obtain ⟨t', ht', f⟩ := FinG.of f
    rw [ht] at ht'
    cases ht'
    by_cases e : t = isOr
    · rw [if_pos e] at f ⊢
      obtain ⟨b', e', f⟩ : OKT p B own ρ σ H1 Q (d, k1) := f
      have e' : truD d = some b' := e'
      rw [ht] at e'
      cases e'
      exact f H1 er1 Stp.refl
    · rw [if_neg e] at f ⊢
      exact ⟨B, own, ρ, k1, er1, f⟩
  subst ho
  cases isOr with
  | true =>
    refine (pw_or (pos := pos) (rest := r) ha hb).imp fun σ H Q q => ?_
    obtain ⟨B, own, ρ, k, er, f⟩ := core σ H Q q
    refine ⟨B, own, ρ, k, er, f.imp (fun a ⟨t, h1, h2⟩ => ⟨t, h1, fun H' er' s' => ?_⟩) fun _ _ x => x⟩
    have h2 := h2 H' er' s'
    cases t with
    | true => rw [if_pos rfl] at h2; exact iteT h2
    | false => rw [if_neg (by decide)] at h2; exact iteF h2
  | false =>
    refine (pw_and (pos := pos) (rest := r) ha hb).imp fun σ H Q q => ?_
    obtain ⟨B, own, ρ, k, er, f⟩ := core σ H Q q
    refine ⟨B, own, ρ, k, er, f.imp (fun a ⟨t, h1, h2⟩ => ⟨t, h1, fun H' er' s' => ?_⟩) fun _ _ x => x⟩
    have h2 := h2 H' er' s'
    cases t with
    | true => rw [if_neg (by decide)] at h2; exact iteT h2
    | false => rw [if_pos rfl] at h2; exact iteF h2
theorem c_ite (G : Good p c C g X W) {e a b : E} {t x y : Expr} (ht : PT X t (tT p W g e)) (ha : PE X x (tE p W g a)) (hb : PE X y (tE p W g b)) : PE X (.IfExp t x y pos) (tE p W g (.ite e a b)) :=
  (pe_ifExp ht ha hb).imp fun σ H Q ⟨B, own, ρ, k, er, f⟩ => by
    unfold ev at f
    refine tT.bind (okβ := fun H r => OK p B own ρ σ H (kdOf ρ (.ite e a b)) Q r) er f (fun H1 k1 r s er1 h => h.later s er er1) fun d k1 f => ?_
    obtain ⟨t, ht, _⟩ := FinG.of f
    refine ⟨t, ht, fun H1 er1 s1 f => ?_⟩
    obtain ⟨t', ht', f⟩ := FinG.of f
    rw [ht] at ht'
    cases ht'
    cases t with
    | true => exact iteT ⟨B, own, ρ, k1, er1, f.imp (fun r hr v H' er' s' q' => hr v H' er' s' (RV.noH (join_ne _ _) q'.joinl)) fun _ _ x => x⟩
    | false => exact iteF ⟨B, own, ρ, k1, er1, f.imp (fun r hr v H' er' s' q' => hr v H' er' s' (RV.noH (join_ne _ _) q'.joinr)) fun _ _ x => x⟩
theorem pt_ifExp {X : Cx} {c a b : Expr} {tc ta tb : TT} (hc : PT X c tc) (ha : PT X a ta) (hb : PT X b tb) : PT X (.IfExp c a b pos) (fun σ H Q => tc σ H fun t H1 => if t = true then ta σ H1 Q else tb σ H1 Q) := by
  refine ⟨fun pins s σ H Q I h => ?_⟩
  refine isTrue_IfExp (thn (hc.run pins s σ H _ I h) fun t s1 ⟨H1, I1, q1⟩ => ?_)
  cases t with
  | true => rw [if_pos rfl] at q1 ⊢; exact ha.run pins s1 σ H1 Q I1 q1
  | false => rw [if_neg (by decide)] at q1 ⊢; exact hb.run pins s1 σ H1 Q I1 q1
theorem c_iteT (G : Good p c C g X W) {e a b : E} {t x y : Expr} (ht : PT X t (tT p W g e)) (ha : PT X x (tT p W g a)) (hb : PT X y (tT p W g b)) : PT X (.IfExp t x y pos) (tT p W g (.ite e a b)) :=
  (pt_ifExp ht ha hb).imp fun σ H Q ⟨B, own, ρ, k, er, f⟩ => by
    unfold ev at f
    refine tT.bind (okβ := fun H r => OKT p B own ρ σ H Q r) er f (fun H1 k1 r s er1 h => h.later s) fun d k1 f => ?_
    obtain ⟨t, ht, _⟩ := FinG.of f
    refine ⟨t, ht, fun H1 er1 s1 f => ?_⟩
    obtain ⟨t', ht', f⟩ := FinG.of f
    rw [ht] at ht'
    cases ht'
    cases t with
    | true => exact iteT ⟨B, own, ρ, k1, er1, f⟩
    | false => exact iteF ⟨B, own, ρ, k1, er1, f⟩
theorem c_ix (G : Good p c C g X W) {a i : E} {x y : Expr} (ha : PE X x (tE p W g a)) (hi : PE X y (tE p W g i)) (hy : plainX y = true) : PE X (.Subscript x y pos) (tE p W g (.ix a i)) :=
  (pe_ix (ix_all (by have := G.u65; omega)) ha hi (plain_ix hy)).imp fun σ H Q ⟨B, own, ρ, k, er, f⟩ => by
    unfold ev at f
    refine tE.bind (okβ := fun H r => OK p B own ρ σ H .pl Q r) er f (fun H1 k1 r s er1 h => h.later s er er1) fun d k1 v H1 er1 s1 q1 f => ?_
    refine tE.bind (okβ := fun H r => OK p B own ρ σ H .pl Q r) er1 f (fun H2 k2 r s er2 h => h.later s er1 er2) fun e k2 u H2 er2 s2 q2 f => ?_
    obtain ⟨z, hz, f⟩ := FinG.of f
    rw [G.K]
    exact rIx_of er2 (q1.later er1 s2) q2 hz (OK.wn er2 f (by simp))
/-- an end of a slice -/
def tO (p : Par) (W : WX) (g : G) (e : E) (l : Option Expr) : TO := match l with
  | none => tNoPart
  | some _ => tPart (tE p W g e)
theorem c_end {e : E} {l : Option Expr} (h : ∀ y, l = some y → PE X y (tE p W g e)) : PO X l (tO p W g e l) := by
  cases l with
  | none => exact po_none
  | some y => exact po_some (h y rfl)
theorem tO.bind {β : Type} {B : Bs} {own : Nat → Option Addr} {ρ : Rho} {k : Nat} {σ : L2.St} {H : Hp} {e : E} {l : Option Expr} (hl : isOmit e = l.isNone) {okβ : Hp → β → Prop} {f : Option Int × Nat → R β} {Q : Option Int → Hp → Prop} (er : ER p.K B own ρ k σ H)
    (h : FinG (okβ H) (XP p W B own ρ σ H) (endOf (isOmit e) k (ev g e ρ k) >>= f))
    (later : ∀ H1 k1 r, Stp B H H1 → ER p.K B own ρ k1 σ H1 → okβ H r → okβ H1 r)
    (next : ∀ o k1 H1, ER p.K B own ρ k1 σ H1 → Stp B H H1 → FinG (okβ H1) (XP p W B own ρ σ H1) (f (o, k1)) → Q o H1) : tO p W g e l σ H Q := by
  cases l with
  | none =>
    have hl : isOmit e = true := hl
    rw [hl] at h
    exact next none k H er Stp.refl h
  | some y =>
    have hl : isOmit e = false := hl
    rw [hl] at h
    have h : FinG (okβ H) (XP p W B own ρ σ H) (ev g e ρ k >>= fun r => (R.of (intOf r.1) >>= fun i => f (some i, r.2))) := by
      cases he : ev g e ρ k with
      | no => rw [he] at h; exact h
      | ex x kk => rw [he] at h; exact h
      | ok r =>
        rw [he] at h
        show FinG _ _ (R.of (intOf r.1) >>= fun i => f (some i, r.2))
        have h : FinG (okβ H) (XP p W B own ρ σ H) ((R.of (intOf r.1) >>= fun i => R.ok (some i, r.2)) >>= f) := h
        cases hi : intOf r.1 with
        | none => rw [hi] at h; exact h
        | some i => rw [hi] at h; exact h
    refine tE.bind (okβ := okβ) er h later fun d k1 v H1 er1 s1 q1 f => ?_
    obtain ⟨i, hi, f⟩ := FinG.of f
    have e : d = .int i := by cases d <;> simp [intOf] at hi; rw [hi]
    subst e
    rw [(q1.weak er1).int_inv]
    exact ⟨i, rfl, next (some i) k1 H1 er1 s1 f⟩
theorem c_sl (G : Good p c C g X W) {a lo hi : E} {x : Expr} {l h : Option Expr} {p2 : Pos} (ha : PE X x (tE p W g a)) (hl : ∀ y, l = some y → PE X y (tE p W g lo)) (hh : ∀ y, h = some y → PE X y (tE p W g hi)) (ol : isOmit lo = l.isNone) (oh : isOmit hi = h.isNone) :
    PE X (.Subscript x (.Slice l h none p2) pos) (tE p W g (.sl a lo hi)) :=
  (pe_slice sl_all ha (c_end hl) (c_end hh)).imp fun σ H Q ⟨B, own, ρ, k, er, f⟩ => by
    unfold ev at f
    refine tE.bind (okβ := fun H r => OK p B own ρ σ H .pl Q r) er f (fun H1 k1 r s er1 h => h.later s er er1) fun d k1 v H1 er1 s1 q1 f => ?_
    refine tO.bind (okβ := fun H r => OK p B own ρ σ H .pl Q r) ol er1 f (fun H2 k2 r s er2 h => h.later s er1 er2) fun o1 k2 H2 er2 s2 f => ?_
    refine tO.bind (okβ := fun H r => OK p B own ρ σ H .pl Q r) oh er2 f (fun H2 k2 r s er3 h => h.later s er2 er3) fun o2 k3 H3 er3 s3 f => ?_
    obtain ⟨z, hz, f⟩ := FinG.of f
    rw [G.K]
    exact rSl_of er3 ((q1.later er1 s2).later er2 s3) hz (OK.wn er3 f (by simp))
end
end Y

namespace Y
open PySem PySem.W PySem.Spec PyProof.Rows L2
variable [TownS]
def Es.len : Es → Nat
  | .nil => 0
  | .cons _ es => es.len + 1
theorem evs_len {g : G} {ρ : Rho} : ∀ {es : Es} {k : Nat} {ds : List D} {r : Nat}, evs g es ρ k = .ok (ds, r) → ds.length = es.len
  | .nil, k, ds, r, h => by
    unfold evs at h
    cases h
    rfl
  | .cons e es, k, ds, r, h => by
    unfold evs at h
    cases he : ev g e ρ k with
    | no => rw [he] at h; cases h
    | ex _ _ => rw [he] at h; cases h
    | ok a =>
      rw [he] at h
      have h : (evs g es ρ a.2 >>= fun b => R.ok (a.1 :: b.1, b.2)) = R.ok (ds, r) := h
      cases hs : evs g es ρ a.2 with
      | no => rw [hs] at h; cases h
      | ex _ _ => rw [hs] at h; cases h
      | ok b =>
        rw [hs] at h
        cases h
        show b.1.length + 1 = es.len + 1
        rw [evs_len hs]
theorem cks_len {C : Ck} {sc : Scope} : ∀ {es : Es} {xs : List Expr}, cks C sc es xs = true → xs.length = es.len
  | .nil, [], _ => rfl
  | .cons e es, x :: xs, h => by
    rw [cks, Bool.and_eq_true] at h
    show xs.length + 1 = es.len + 1
    rw [cks_len h.2]
  | .nil, _ :: _, h => by simp [cks] at h
  | .cons _ _, [], h => by simp [cks] at h
theorem cks_plain {C : Ck} {sc : Scope} : ∀ {es : Es} {xs : List Expr}, cks C sc es xs = true → xs.all plainX = true
  | .nil, [], _ => rfl
  | .cons e es, x :: xs, h => by
    rw [cks, Bool.and_eq_true] at h
    rw [List.all_cons, ck_plain h.1, cks_plain h.2]
    rfl
  | .nil, _ :: _, h => by simp [cks] at h
  | .cons _ _, [], h => by simp [cks] at h
theorem star_any {pos : Pos} {env : Env} : ∀ {xs : List Expr}, xs.all plainX = true → (backTo pos (starEach xs env)).any (·.1) = false
  | [], _ => rfl
  | x :: xs, h => by
    rw [List.all_cons, Bool.and_eq_true] at h
    rw [plain_star h.1]
    show (false || (backTo pos (starEach xs env)).any (·.1)) = false
    rw [star_any h.2]
    rfl
theorem kw_all {pos : Pos} {env : Env} : ∀ {kws : List Keyword} {ks : List Str}, kws.map (·.arg) = ks.map some → (backToKw pos (keywordEach kws env)).all (·.1.isSome) = true ∧ (backToKw pos (keywordEach kws env)).filterMap (·.1) = ks ∧ (backToKw pos (keywordEach kws env)).any (·.1.isNone) = false
  | [], [], _ => ⟨rfl, rfl, rfl⟩
  | ⟨a, v, q⟩ :: kws, k :: ks, h => by
    rw [List.map_cons, List.map_cons, List.cons.injEq] at h
    obtain ⟨rfl, h⟩ := h
    obtain ⟨h1, h2, h3⟩ := kw_all (pos := pos) (env := env) h
    refine ⟨?_, ?_, ?_⟩
    · show (true && (backToKw pos (keywordEach kws env)).all (·.1.isSome)) = true
      rw [h1]; rfl
    · show k :: (backToKw pos (keywordEach kws env)).filterMap (·.1) = k :: ks
      rw [h2]
    · show (false || (backToKw pos (keywordEach kws env)).any (·.1.isNone)) = false
      rw [h3]; rfl
  | [], _ :: _, h => by simp at h
  | _ :: _, [], h => by simp at h
section
variable {p : Par} {B : Bs} {own : Nat → Option Addr} {ρ : Rho} {H H' : Hp}
theorem RVs.len : ∀ {es : Es} {vs : List V} {ds : List D}, RVs p B own ρ H es vs ds → vs.length = es.len ∧ ds.length = es.len
  | .nil, [], [], _ => ⟨rfl, rfl⟩
  | .cons e es, v :: vs, d :: ds, ⟨_, h⟩ => by
    obtain ⟨h1, h2⟩ := RVs.len (es := es) h
    exact ⟨by show vs.length + 1 = es.len + 1; rw [h1], by show ds.length + 1 = es.len + 1; rw [h2]⟩
  | .nil, [], _ :: _, h => h.elim
  | .nil, _ :: _, _, h => h.elim
  | .cons _ _, [], _, h => h.elim
  | .cons _ _, _ :: _, [], h => h.elim
end
/-! ### a call of a def, keywords or none -/
section
variable {X : Cx} {k n : Nat} {f : Addr} {fd : FuncData} {ps ks : List Str} {sp : Sp} {E : L2.St → XK} {x : Str} {pp pos : Pos} {args : List Expr} {kws : List Keyword} {t tk : TA} {gg : List Value → List Value → List Value} {gV : List V → List V → List V}
theorem run_site {pins : List (Addr × Obj)} {σ : L2.St} {H : Hp} {s : Shared} {Q : VK} {us ws : List Value} {vs zs : List V} (F : FnOk X.prog X.w X.K X.mg X.base (L2.CX X.prog X.w) k f fd ps sp) (hr : Room k X.A) (hb : KBn X.K fd ps n ks gg gV) (hx : PassesAt (L2.CX X.prog X.w) X σ (E σ))
    (I : Inv X pins σ H s) (r : Vals vs us) (rz : Vals zs ws) (h1 : vs.length = n) (h2 : zs.length = ks.length) (h : sp (gV vs zs) H Q (E σ)) : wpAny (model X.prog X.w) X.A (call (.ref f) us (ks.zip ws)) (EP X pins σ Q) X.xe s := by
  have r2 := hb.rel r rz
  refine wpAny_call (codeAny_mono (F.run X.A X.stack s H ⟨us, ks.zip ws⟩ (gg us ws) (gV vs zs) Q (E σ) hr I.env0 (hb.to s us ws I.kIn (by rw [← r.length]; exact h1) (by rw [← rz.length]; exact h2)) r2 h) fun r s' hq => ?_)
  cases r with
  | error e => exact hx pins H s e s' I hq
  | ok fl =>
    cases fl with
    | ret u => exact I.after hq
    | next => exact False.elim hq
    | brk => exact False.elim hq
    | cont => exact False.elim hq
def tSite (n : Nat) (ks : List Str) (sp : Sp) (gV : List V → List V → List V) (E : L2.St → XK) (t tk : TA) : TE := fun σ H Q => t σ H fun vs H1 => tk σ H1 fun zs H2 => vs.length = n ∧ zs.length = ks.length ∧ sp (gV vs zs) H2 Q (E σ)
theorem pe_site (F : FnOk X.prog X.w X.K X.mg X.base (L2.CX X.prog X.w) k f fd ps sp) (hr : Room k X.A) (hg : Gl X x) (hm : X.mg x = some (.ref f)) (hk : PySem.W.keepIn X.K (.ref f) = true) (hb : KBn X.K fd ps n ks gg gV) (hx : ∀ σ, PassesAt (L2.CX X.prog X.w) X σ (E σ))
    (ha : PA X args t) (hkw : PK X kws tk) (hpl : args.all plainX = true) (hks : kws.map (·.arg) = ks.map some) (hdb : (x == ("__debug__" : Str)) = false) (h0 : args = [] → ∀ σ H Q, t σ H Q → Q [] H) : PE X (.Call (.Name x pp) args kws pos) (tSite n ks sp gV E t tk) := by
  obtain ⟨k1, k2, k3⟩ := kw_all (pos := pos) (env := X.env) hks
  refine ⟨fun pins s σ H Q I h => ?_⟩
  refine wpAny_Call_Name_kw (ld_glob I hg hm ?_ hdb)
  have fin : ∀ {us ws : List Value} {vs zs : List V} {H2 : Hp} {s2 : Shared}, Inv X pins σ H2 s2 → Vals vs us → Vals zs ws → vs.length = n ∧ zs.length = ks.length ∧ sp (gV vs zs) H2 Q (E σ) →
      wpAny (model X.prog X.w) X.A (call (.ref f) us (((backToKw pos (keywordEach kws X.env)).filterMap (·.1)).zip ws)) (EP X pins σ Q) X.xe s2 := fun {us ws vs zs H2 s2} I2 r rz q => by
    rw [k2]
    exact run_site F hr hb (hx σ) I2 r rz q.1 q.2.1 q.2.2
  cases args with
  | nil =>
    refine PySem.W.callWith_KW0 (h₀ := X.base) I.ok.mod.kin hk k1 ?_ (by rw [k3]; rfl)
    have q := h0 rfl σ H _ h
    refine thn (hkw.run pos pins s σ H _ I q) fun ws s2 ⟨zs, H2, I2, rz, q2⟩ => ⟨I2.kIn, ?_⟩
    rw [List.append_nil]
    exact fin (vs := []) I2 .nil rz q2
  | cons e es =>
    rw [List.all_cons, Bool.and_eq_true] at hpl
    refine PySem.W.callWith_KW (h₀ := X.base) I.ok.mod.kin hk k1 (thn (ha.run pos pins s σ H _ I h) fun us s1 ⟨vs, H1, I1, r, q⟩ => ?_) ?_ (plain_star hpl.1)
    · refine thn (hkw.run pos pins s1 σ H1 _ I1 q) fun ws s2 ⟨zs, H2, I2, rz, q2⟩ => ⟨I2.kIn, ?_⟩
      exact fin I2 r rz q2
    · rw [k3, star_any (by rw [List.all_cons, hpl.1, hpl.2]; rfl)]
      rfl
end
section
variable {p : Par} {c : Cnt} {C : Ck} {g : G} {X : Cx} {W : WX} {pos : Pos}
theorem flat_hid {B : Bs} {own : Nat → Option Addr} {ρ : Rho} {k : Nat} {σ : L2.St} {H : Hp} (er : ER p.K B own ρ k σ H) {v : V} {d : D} (q : Rp p.K (Hd H B.P0) v d) (h : flat d = true) : Rp p.K (Hd H (hid B own)) v d := by
  have np : ∀ {a o}, Hd H B.P0 a = some o → (∃ xs, o = .tup xs) ∨ (∃ ob u, o = .frz ob u) → Hd H (hid B own) a = some o := fun {a o} e ho => by
    refine Hd.at ?_ (Hd.le _ _ e)
    rintro (z | ⟨i, z⟩)
    · exact Hd.np e z
    · obtain ⟨_, o', e', n⟩ := er.new i a z
      rw [Hd.le _ _ e] at e'
      cases e'
      rcases ho with ⟨xs, ho⟩ | ⟨ob, u, ho⟩
      · exact (n xs).1 ho
      · exact (n []).2 ob u ho
  refine Rp.flat (fun a xs r => ?_) (fun a xs e => np e (.inl ⟨xs, rfl⟩)) q h
  rcases r with (r | ⟨o, r⟩) | r
  · exact .inl (.inl (np r (.inl ⟨xs, rfl⟩)))
  · exact .inl (.inr ⟨o, np r (.inr ⟨o, _, rfl⟩)⟩)
  · exact .inr r
theorem nil_of {es : Es} {xs : List Expr} {sc : Scope} (h : cks C sc es xs = true) : xs = [] → ∀ σ H (Q : List V → Hp → Prop), tA p W g es σ H Q → Q [] H := fun e σ H Q ⟨B, own, ρ, k, er, f⟩ => by
  subst e
  cases es with
  | nil =>
    unfold evs at f
    exact f [] H er Stp.refl trivial
  | cons _ _ => simp [cks] at h
theorem c_call (G : Good p c C g X W) {j : Nat} {st : Site} {es ks : Es} {pp : Pos} {args : List Expr} {kws : List Keyword} (hs : C.cs j = some st) (hn : args.length = st.np) (hks : kws.map (·.arg) = st.kw.map some) (hv : glB X.env.scope st.nm = true) (hm : nmOk st.nm = true)
    (h1 : cks C X.env.scope es args = true) (h2 : cks C X.env.scope ks (kws.map (·.value)) = true) (ha : PA X args (tA p W g es)) (hk : PK X kws (tA p W g ks)) : PE X (.Call (.Name st.nm pp) args kws pos) (tE p W g (.call j es ks)) := by
  obtain ⟨f, fd, ps, k, sp, gg, gV, F, hle, hmg, hkp, hb, himp⟩ := (G.tab.site j st hs).ex
  have e1 := G.prog
  have e2 := G.w
  have e3 := G.K
  have e4 := G.mg
  have e5 := G.base
  refine (pe_site (E := WE W) (by rw [e1, e2, e3, e4, e5]; exact F) (G.room.mono hle) (gl_of hv) (by rw [e4]; exact hmg) (by rw [e3]; exact hkp) (by rw [e3]; exact hb) (fun σ => passAt G.tk σ) ha hk (cks_plain h1) hks (nm_of hm).1 (nil_of h1)).imp fun σ H Q ⟨B, own, ρ, k, er, f⟩ => ?_
  unfold ev at f
  refine tA.bind (okβ := fun H r => OK p B own ρ σ H .pl Q r) er f (fun H1 k1 r s er1 h => h.later s er er1) fun ds k1 vs H1 er1 s1 q1 f => ?_
  refine tA.bind (okβ := fun H r => OK p B own ρ σ H .pl Q r) er1 f (fun H1 k1 r s er2 h => h.later s er1 er2) fun es2 k2 zs H2 er2 s2 q2 f => ?_
  replace f : FinG (fun r => OK p B own ρ σ H2 .pl Q r) (XP p W B own ρ σ H2) ((g.fn j (ds ++ es2)).at k2 >>= fun r => if ((anyTr ρ es || anyTr ρ ks) && !flat r) = true then R.no else R.ok (r, k2)) := f
  have l1 := q1.len.1
  have l2 := q2.len.1
  have n1 := cks_len h1
  have n2 := cks_len h2
  have n3 : kws.length = st.kw.length := by
    have := congrArg List.length hks
    simpa using this
  rw [List.length_map] at n2
  have z1 : vs.length = st.np := by omega
  have z2 : zs.length = st.kw.length := by omega
  refine ⟨z1, z2, himp vs zs H2 Q _ z1 z2 ?_⟩
  have q1' := q1.later s2 er1
  cases ht : (anyTr ρ es || anyTr ρ ks) with
  | false =>
    rw [Bool.or_eq_false_iff] at ht
    refine ⟨hid B own, ds ++ es2, (q1'.plain ht.1).append (q2.plain ht.2), fun a h => er2.dom h, ?_⟩
    cases hr : g.fn j (ds ++ es2) with
    | no => rw [hr] at f; exact f
    | ex x kk =>
      rw [hr] at f
      exact fun cls dx H' s' hx => f cls dx H' (er2.same s') (Stp.same s') hx
    | ok r =>
      rw [hr] at f
      have f : FinG (fun r => OK p B own ρ σ H2 .pl Q r) (XP p W B own ρ σ H2) (if ((anyTr ρ es || anyTr ρ ks) && !flat r) = true then R.no else R.ok (r, k2)) := f
      rw [ht.1, ht.2, if_neg (by simp)] at f
      exact fun v H' s' hq => f v H' (er2.same s') (Stp.same s') hq
  | true =>
    refine ⟨B.P0, ds ++ es2, (q1'.all er2).append (q2.all er2), fun a h => er2.dom (.inl h), ?_⟩
    cases hr : g.fn j (ds ++ es2) with
    | no => rw [hr] at f; exact f
    | ex x kk =>
      rw [hr] at f
      exact fun cls dx H' s' hx => f cls dx H' (er2.same s') (Stp.same s') hx
    | ok r =>
      rw [hr] at f
      have f : FinG (fun r => OK p B own ρ σ H2 .pl Q r) (XP p W B own ρ σ H2) (if ((anyTr ρ es || anyTr ρ ks) && !flat r) = true then R.no else R.ok (r, k2)) := f
      rw [ht] at f
      cases hf : flat r with
      | false => rw [hf] at f; exact f.elim
      | true =>
        rw [hf] at f
        exact fun v H' s' hq => f v H' (er2.same s') (Stp.same s') (flat_hid (er2.same s') hq hf)
/-! ### built-in functions -/
theorem c_bi (G : Good p c C g X W) {b : Bi} {a : E} {x : Expr} {f : Str} {pp : Pos} (hb : biCk b f = true) (hbl : C.bl.contains f = true) (hv : glB X.env.scope f = true) (hm : nmOk f = true) (ha : PE X x (tE p W g a)) (hx : plainX x = true) : PE X (.Call (.Name f pp) [x] [] pos) (tE p W g (.bi b a)) := by
  have hmg : X.mg f = none := by rw [G.mg]; exact G.tab.bl f (by simpa using hbl)
  have core : PE X (.Call (.Name f pp) [x] [] pos) (tCB (rBi X.K b) (tCons (tE p W g a) tNil)) := by
    have hc := call_bi (X := X) G.calm b
    have hpa : PA X [x] (tCons (tE p W g a) tNil) := pa_cons ha pa_nil (plain_star hx)
    have hany : (backTo pos (starEach ([] : List Expr) X.env)).any (·.1) = false := rfl
    unfold biCk at hb
    cases hn : biName b with
    | inl id =>
      rw [hn] at hb hc
      exact pe_callB hc (gl_of hv) hmg (of_decide_eq_true hb) hpa (nm_of hm).2.2 (nm_of hm).1 (plain_star hx) rfl
    | inr id =>
      rw [hn] at hb hc
      exact pe_callTy hc (gl_of hv) hmg (of_decide_eq_true hb) hpa (nm_of hm).2.2 (nm_of hm).1 (plain_star hx) rfl
  refine core.imp fun σ H Q ⟨B, own, ρ, k, er, f⟩ => ?_
  unfold ev at f
  refine tE.bind (okβ := fun H r => OK p B own ρ σ H (kdOf ρ (.bi b a)) Q r) er f (fun H1 k1 r s er1 h => h.later s er er1) fun d k1 v H1 er1 s1 q1 f => ?_
  obtain ⟨z, hz, f⟩ := FinG.of f
  rw [G.K]
  show rBi p.K b [v] H1 Q
  by_cases e : b = .list
  · subst e
    have f : OK p B own ρ σ H1 .fr Q (z, k1) := f
    unfold biD at hz
    cases d with
    | list l =>
      cases hz
      obtain ⟨a, vs, rfl, s1, n1, t1⟩ := q1.list
      exact ⟨a, vs, rfl, .inl s1, fun g hg => f _ _ (er1.alloc hg) (Stp.same (same_new hg)) (new_fr er1 hg n1 t1)⟩
    | tuple l =>
      cases hz
      obtain ⟨a, vs, rfl, s1, n1, t1, u1⟩ := q1.tup
      exact ⟨a, vs, rfl, .inr s1, fun g hg => f _ _ (er1.alloc hg) (Stp.same (same_new hg)) (new_fr er1 hg n1 t1)⟩
    | _ => cases hz
  · have kd : kdOf ρ (.bi b a) = .pl := by cases b <;> first | rfl | exact absurd rfl e
    rw [kd] at f
    exact rBi_of er1 q1 hz (OK.wn er1 f (by simp))
end
end Y

namespace Y
open PySem PySem.W PySem.Spec PyProof.Rows L2
variable [TownS]
theorem DcR.isD {K : PySem.W.Frag} {H G : Hp} {a : Addr} {t : Bool} {l : List (D × D)} (q : DcR K H G a t l) : IsD H a := by
  rcases q with ⟨_, ks, ds, h1, _⟩ | ⟨_, ks, ds, h1, _⟩
  · exact .inl ⟨ks, .inl h1⟩
  · exact .inr ⟨ks, .inl h1⟩
section
variable {p : Par} {c : Cnt} {C : Ck} {g : G} {X : Cx} {W : WX} {pos : Pos}
theorem c_callT (G : Good p c C g X W) {j : Nat} {nm s t : Str} {es : Es} {p1 p2 p3 : Pos} {args : List Expr} (hs : C.ct j = some nm) (hv : glB X.env.scope nm = true) (hm : nmOk nm = true) (n0 : C.N[0]? = some s) (v0 : visB X.env.scope s = true) (m0 : nmOk s = true) (n1 : C.N[1]? = some t) (v1 : visB X.env.scope t = true) (m1 : nmOk t = true)
    (h1 : cks C X.env.scope es args = true) (ha : PA X args (tA p W g es)) : PE X (.Call (.Name nm p1) (.Name s p2 :: .Name t p3 :: args) [] pos) (tE p W g (.callT j es)) := by
  obtain ⟨f, fd, ps, k, F, hle, hmg, hkp, hb⟩ := (G.tab.siteT j nm hs).ex
  have e1 := G.prog
  have e2 := G.w
  have e3 := G.K
  have e4 := G.mg
  have e5 := G.base
  have pl : ∀ {q : Pos} {y : Str}, plainX (.Name y q) = true := fun {_ _} => rfl
  have hpa : PA X (.Name s p2 :: .Name t p3 :: args) (tCons (tVar 0) (tCons (tVar 1) (tA p W g es))) := pa_cons (pe_var (i := 0) (by rw [G.N]; exact n0) (vis_of v0) (nm_of m0).1 (nm_of m0).2.1) (pa_cons (pe_var (i := 1) (by rw [G.N]; exact n1) (vis_of v1) (nm_of m1).1 (nm_of m1).2.1) ha (plain_star pl)) (plain_star pl)
  refine (pe_callS (E := WE W) (by rw [e1, e2, e3, e4, e5]; exact F) (G.room.mono hle) (gl_of hv) (by rw [e4]; exact hmg) (by rw [e3]; exact hkp) (by rw [e3]; exact hb) (fun σ => passAt G.tk σ) hpa (nm_of hm).1 (plain_star pl) ?_).imp fun σ H Q ⟨B, own, ρ, k, er, f⟩ => ?_
  · exact star_any (by rw [List.all_cons, cks_plain h1]; rfl)
  · unfold ev at f
    cases hl : (anyTr ρ es || !lawIn ρ) with
    | true => rw [hl] at f; exact f.elim
    | false =>
      rw [hl] at f
      rw [Bool.or_eq_false_iff] at hl
      obtain ⟨ht, hl⟩ := hl
      have hρ : ∃ r, ρ = some .scr :: some .town :: r := by
        unfold lawIn at hl
        split at hl
        · exact ⟨_, rfl⟩
        · simp at hl
      obtain ⟨r, rfl⟩ := hρ
      obtain ⟨sv, a0, a1⟩ := er.slot 0 .scr rfl
      obtain ⟨tv, b0, ta, b1, rfl⟩ := er.slot 1 .town rfl
      refine ⟨sv, a0, .ref ta, b0, ?_⟩
      refine tA.bind (okβ := fun H r => OK p B own _ σ H .pl Q r) er f (fun H1 k1 r s er1 h => h.later s er er1) fun ds k1 vs H1 er1 s1 q1 f => ?_
      replace f : FinG (fun q => OK p B own (some .scr :: some .town :: r) σ H1 .pl Q q) (XP p W B own (some .scr :: some .town :: r) σ H1) (g.fnT j ds k1) := f
      obtain ⟨tf, hT⟩ := b1
      have hw := B.tw ta tf hT
      subst hw
      have stp : ∀ {H'}, (∀ b o, b ≠ ta → H1 b = some o → H' b = some o) → Stp B H1 H' := fun {H'} h b o e n => h b o (fun z => n ⟨_, z ▸ hT⟩) e
      have twn : ∀ {H' : Hp} {k' : Nat}, H' ta = some (.lst (TownS.town k')) → ∀ t f, B.T = some (t, f) → H' t = some (.lst (f k')) := fun {H' k'} h t f e => by
        rw [hT] at e
        cases e
        exact h
      refine ⟨hid B own, sv, ta, k1, vs, ds, rfl, isT_hid ⟨_, hT⟩, er1.town _ _ hT, Rp.mono s1.hd a1, q1.plain ht, fun a h => er1.dom h, f.imp (fun r hr v H' h1 h2 hq => ?_) fun x k' hx cls dx H' h1 h2 hq => ?_⟩
      · exact hr v H' (er1.step (stp h1) (twn h2)) (stp h1) hq
      · exact hx cls dx H' (er1.step (stp h1) (twn h2)) (stp h1) hq
theorem plainO_base {o : Expr} {m : Str} {env : Env} (h : plainO o = true) : attributeBase o m env (eval o env) = eval o env := by
  cases o with
  | Call f as ks q =>
    cases as with
    | nil => simp [plainO] at h
    | cons a as => cases f <;> cases ks <;> rfl
  | _ => rfl
/-- an item of a dict, or what stands for it -/
theorem c_get (G : Good p c C g X W) {a : E} {es : Es} {o : Expr} {args : List Expr} {apos : Pos} (ho : plainO o = true) (hl : apos.endLine = pos.line) (ha : PE X o (tE p W g a)) (hes : cks C X.env.scope es args = true) (hn : args.length = 1 ∨ args.length = 2)
    (hs : ∀ e es' x xs, es = .cons e es' → args = x :: xs → PE X x (tE p W g e)) (hs2 : ∀ e e2 es' x y xs, es = .cons e (.cons e2 es') → args = x :: y :: xs → PE X y (tE p W g e2)) : PE X (.Call (.Attribute o "get" apos) args [] pos) (tE p W g (.mt .get a es)) := by
  have hu : X.A.units + 1 < cLine := by have := G.u65; omega
  have pl := cks_plain hes
  match es, args, hes with
  | .cons e .nil, [x], hes =>
    rw [List.all_cons, Bool.and_eq_true] at pl
    have st := plain_star (xs := []) (env := X.env) pl.1
    refine (pe_dget1 hu ha (hs e .nil x [] rfl rfl) ⟨plainO_base ho, by rw [st]; rfl, by rw [hl]; exact beq_self_eq_true _, by rw [st]; rfl⟩).imp fun σ H Q ⟨B, own, ρ, k, er, f⟩ => ?_
    unfold ev at f
    cases ht : anyTr ρ (.cons e .nil) with
    | true => rw [ht] at f; exact f.elim
    | false =>
      rw [ht] at f
      refine tE.bind (okβ := fun H r => OK p B own ρ σ H .pl Q r) er f (fun H1 k1 r s er1 h => h.later s er er1) fun d k1 v H1 er1 s1 q1 f => ?_
      obtain ⟨_, hr, f⟩ := FinG.of f
      have dict : ∃ l, d = .dict l := by
        cases d with
        | dict l => exact ⟨l, rfl⟩
        | _ => cases hr
      obtain ⟨l, rfl⟩ := dict
      obtain ⟨a0, rfl, qd⟩ := q1.dict
      refine ⟨a0, rfl, qd.isD, ?_⟩
      replace f : FinG (fun r => OK p B own ρ σ H1 .pl Q r) (XP p W B own ρ σ H1) (ev g e ρ k1 >>= fun r => R.of (mtD .get (.dict l) [r.1]) >>= fun z => R.ok (z, r.2)) := by
        cases he : ev g e ρ k1 with
        | no => simp only [evs, he] at f; exact f
        | ex _ _ => simp only [evs, he] at f; exact f
        | ok r => simp only [evs, he] at f; exact f
      refine tE.bind (okβ := fun H r => OK p B own ρ σ H .pl Q r) er1 f (fun H2 k1 r s er2 h => h.later s er1 er2) fun y k2 u H2 er2 s2 q2 f => ?_
      obtain ⟨z, hz, f⟩ := FinG.of f
      have hz : (if keyOk (kindD l) y then some ((dget l y).getD .none) else none) = some z := hz
      split at hz
      · rename_i hk
        cases hz
        obtain ⟨b0, eb, qd⟩ := (q1.later er1 s2).dict
        cases eb
        rcases qd.get (q2.weak er2) hk with ⟨v, d', gg, e1, e2⟩ | ⟨gg, e1⟩
        · rw [e1] at f
          exact ⟨_, gg, f _ _ er2 Stp.refl e2⟩
        · rw [e1] at f
          exact ⟨_, gg, f _ _ er2 Stp.refl .non⟩
      · cases hz
  | .cons e (.cons e2 .nil), [x, y], hes =>
    rw [List.all_cons, Bool.and_eq_true, List.all_cons, Bool.and_eq_true] at pl
    have st2 := plain_star (xs := []) (env := X.env) pl.2.1
    have st := plain_star (xs := [y]) (env := X.env) pl.1
    rw [st2] at st
    refine (pe_dget2 hu ha (hs e _ x _ rfl rfl) (hs2 e e2 .nil x y [] rfl rfl) ⟨plainO_base ho, by rw [st]; rfl, by rw [hl]; exact beq_self_eq_true _, by rw [st]; rfl⟩).imp fun σ H Q ⟨B, own, ρ, k, er, f⟩ => ?_
    unfold ev at f
    cases ht : anyTr ρ (.cons e (.cons e2 .nil)) with
    | true => rw [ht] at f; exact f.elim
    | false =>
      rw [ht] at f
      simp only [anyTr, Bool.or_false, Bool.or_eq_false_iff] at ht
      refine tE.bind (okβ := fun H r => OK p B own ρ σ H .pl Q r) er f (fun H1 k1 r s er1 h => h.later s er er1) fun d k1 v H1 er1 s1 q1 f => ?_
      obtain ⟨_, hr, f⟩ := FinG.of f
      have dict : ∃ l, d = .dict l := by
        cases d with
        | dict l => exact ⟨l, rfl⟩
        | _ => cases hr
      obtain ⟨l, rfl⟩ := dict
      obtain ⟨a0, rfl, qd⟩ := q1.dict
      refine ⟨a0, rfl, qd.isD, ?_⟩
      replace f : FinG (fun r => OK p B own ρ σ H1 .pl Q r) (XP p W B own ρ σ H1) (ev g e ρ k1 >>= fun r => ev g e2 ρ r.2 >>= fun r2 => R.of (mtD .get (.dict l) [r.1, r2.1]) >>= fun z => R.ok (z, r2.2)) := by
        cases he : ev g e ρ k1 with
        | no => simp only [evs, he] at f; exact f
        | ex _ _ => simp only [evs, he] at f; exact f
        | ok r =>
          cases he2 : ev g e2 ρ r.2 with
          | no => simp only [evs, he, he2, bind_ok, bind_no] at f ⊢; exact f
          | ex _ _ => simp only [evs, he, he2, bind_ok, bind_ex] at f ⊢; exact f
          | ok r2 => simp only [evs, he, he2, bind_ok] at f ⊢; exact f
      refine tE.bind (okβ := fun H r => OK p B own ρ σ H .pl Q r) er1 f (fun H2 k1 r s er2 h => h.later s er1 er2) fun y k2 u H2 er2 s2 q2 f => ?_
      refine tE.bind (okβ := fun H r => OK p B own ρ σ H .pl Q r) er2 f (fun H3 k1 r s er3 h => h.later s er2 er3) fun y2 k3 u2 H3 er3 s3 q3 f => ?_
      obtain ⟨z, hz, f⟩ := FinG.of f
      have hz : (if keyOk (kindD l) y then some ((dget l y).getD y2) else none) = some z := hz
      split at hz
      · rename_i hk
        cases hz
        obtain ⟨b0, eb, qd⟩ := ((q1.later er1 s2).later er2 s3).dict
        cases eb
        rcases qd.get ((q2.later er2 s3).weak er3) hk with ⟨v, d', gg, e1, e2⟩ | ⟨gg, e1⟩
        · rw [e1] at f
          exact ⟨_, gg, f _ _ er3 Stp.refl e2⟩
        · rw [e1] at f
          exact ⟨_, gg, f _ _ er3 Stp.refl (q3.plain (of_decide_eq_false ht.2))⟩
      · cases hz
  | .nil, [], _ => simp at hn
  | .cons e (.cons e2 (.cons _ _)), _ :: _ :: _ :: _, _ => simp at hn
  | .nil, _ :: _, hes => simp [cks] at hes
  | .cons _ _, [], hes => simp [cks] at hes
  | .cons _ .nil, _ :: _ :: _, hes => simp [cks] at hes
  | .cons _ (.cons _ _), [_], hes => simp [cks] at hes
  | .cons _ (.cons _ .nil), _ :: _ :: _ :: _, hes => simp [cks] at hes
  | .cons _ (.cons _ (.cons _ _)), [_, _], hes => simp [cks] at hes
end
end Y

namespace Y
open PySem PySem.W PySem.Spec PyProof.Rows L2
variable [TownS]
/-! ### a datum comes into a slot -/
def lessL (o : Nat → Option Addr) (sl : List Nat) : Nat → Option Addr := fun j => if j ∈ sl then none else o j
section
variable {K : PySem.W.Frag} {B : Bs} {own own' : Nat → Option Addr} {ρ : Rho} {k : Nat} {σ : L2.St} {H : Hp} {v : V} {x : D} {sl : List Nat}
theorem lessL_sub {i : Nat} {a : Addr} (h : lessL own sl i = some a) : own i = some a ∧ i ∉ sl := by
  unfold lessL at h
  split at h
  · cases h
  · exact ⟨h, by assumption⟩
theorem lessL_out {i : Nat} (h : i ∉ sl) : lessL own sl i = own i := by unfold lessL; rw [if_neg h]
theorem lessL_nil : lessL own [] = own := by funext i; exact lessL_out (by simp)
theorem lessL_app {s1 s2 : List Nat} : lessL (lessL own s1) s2 = lessL own (s1 ++ s2) := by
  funext i
  unfold lessL
  by_cases h2 : i ∈ s2 <;> by_cases h1 : i ∈ s1 <;> simp [h1, h2]
theorem lessL_self (h : ∀ i ∈ sl, own i = none) : lessL own sl = own := by
  funext i
  unfold lessL
  by_cases h1 : i ∈ sl
  · rw [if_pos h1, h i h1]
  · rw [if_neg h1]
theorem lessL_hid : ∀ a, Y.hid B (lessL own sl) a → Y.hid B own a := fun a h => h.elim .inl fun ⟨i, h⟩ => .inr ⟨i, (lessL_sub h).1⟩
theorem lessL_hd : ∀ a o, Hd H (Y.hid B own) a = some o → Hd H (Y.hid B (lessL own sl)) a = some o := Hd.less lessL_hid
theorem SVR.lessL {i : Nat} (hi : i ∉ sl) {v : V} {sv : SV} (q : SVR K B own H i v sv) : SVR K B (lessL own sl) H i v sv := by
  cases sv with
  | d x => exact Rp.mono lessL_hd q
  | own l =>
    obtain ⟨a, h1, h2, h3⟩ := q
    exact ⟨a, by rw [lessL_out hi]; exact h1, h2, h3.step (fun o e => e) lessL_hd⟩
  | ownd t l =>
    obtain ⟨a, h1, h2, h3⟩ := q
    exact ⟨a, by rw [lessL_out hi]; exact h1, h2, h3.step (fun o e => e) lessL_hd⟩
  | town => exact q
  | scr => exact Rp.mono lessL_hd q
theorem ER.put (r : ER K B own ρ k σ H) {i : Nat} (hi : i < ρ.length) (q : Rp K (Hd H (Y.hid B own)) v x) : ER K B (lessL own [i]) (ρ.set i (some (.d x))) k (σ.set i (some v)) H where
  len := by rw [List.length_set, List.length_set]; exact r.len
  inj := fun j l a h1 h2 => r.inj j l a (lessL_sub h1).1 (lessL_sub h2).1
  dom0 := r.dom0
  np := fun j a h => r.np j a (lessL_sub h).1
  kind := fun j a h => by
    obtain ⟨sv, e, q⟩ := r.kind j a (lessL_sub h).1
    have hj : j ≠ i := by simpa using (lessL_sub h).2
    exact ⟨sv, by rw [List.getElem?_set_ne (Ne.symm hj)]; exact e, q⟩
  new := fun j a h => r.new j a (lessL_sub h).1
  base := r.base
  town := r.town
  slot := fun j sv e => by
    by_cases hj : j = i
    · subst hj
      rw [List.getElem?_set_self hi] at e
      cases e
      exact ⟨v, by rw [List.getElem?_set_self (by rw [← r.len]; exact hi)], Rp.mono lessL_hd q⟩
    · rw [List.getElem?_set_ne (Ne.symm hj)] at e
      obtain ⟨u, h1, h2⟩ := r.slot j sv e
      exact ⟨u, by rw [List.getElem?_set_ne (Ne.symm hj)]; exact h1, SVR.lessL (by simpa using hj) h2⟩
end
def OnlyS (sl : List Nat) (σ σ' : L2.St) : Prop := σ'.length = σ.length ∧ ∀ i, i ∉ sl → σ'[i]? = σ[i]?
theorem OnlyS.refl {sl : List Nat} {σ : L2.St} : OnlyS sl σ σ := ⟨rfl, fun _ _ => rfl⟩
theorem OnlyS.trans {s1 s2 : List Nat} {σ σ1 σ2 : L2.St} (a : OnlyS s1 σ σ1) (b : OnlyS s2 σ1 σ2) : OnlyS (s1 ++ s2) σ σ2 :=
  ⟨b.1.trans a.1, fun i h => (b.2 i fun z => h (List.mem_append_right _ z)).trans (a.2 i fun z => h (List.mem_append_left _ z))⟩
theorem wipe_get {σ : L2.St} {i : Nat} : ∀ {vs : List Nat}, (wipe σ vs)[i]? = if i ∈ vs then (if i < σ.length then some none else none) else σ[i]?
  | [] => by simp [wipe]
  | v :: vs => by
    unfold wipe
    by_cases hi : i = v
    · subst hi
      rw [if_pos List.mem_cons_self]
      by_cases hl : i < σ.length
      · rw [if_pos hl, List.getElem?_set_self (by rw [wipe_length]; exact hl)]
      · rw [if_neg hl, List.getElem?_eq_none (by rw [List.length_set, wipe_length]; omega)]
    · rw [List.getElem?_set_ne (Ne.symm hi), wipe_get (vs := vs)]
      by_cases hm : i ∈ vs
      · rw [if_pos hm, if_pos (List.mem_cons_of_mem _ hm)]
      · rw [if_neg hm, if_neg (by simp [hi, hm])]
theorem OnlyS.wipe {sl vs : List Nat} {σ σ' : L2.St} (h : OnlyS sl σ σ') (hs : ∀ i ∈ sl, i ∈ vs) : L2.wipe σ' vs = L2.wipe σ vs := by
  apply List.ext_getElem?
  intro i
  rw [wipe_get, wipe_get, h.1]
  by_cases hm : i ∈ vs
  · rw [if_pos hm, if_pos hm]
  · rw [if_neg hm, if_neg hm, h.2 i fun z => hm (hs i z)]
/-! ### targets -/
def GOK (p : Par) (sl : List Nat) (B : Bs) (own : Nat → Option Addr) (ρ' : Rho) (k : Nat) (σ : L2.St) (H : Hp) (Q : L2.St → Hp → Prop) : Prop :=
  ∀ σ', ER p.K B (lessL own sl) ρ' k σ' H → OnlyS sl σ σ' → Q σ' H
def tG (p : Par) (tg : Tg) : TG := fun v σ H Q => ∃ B own ρ k x ρ', ER p.K B own ρ k σ H ∧ Rp p.K (Hd H (hid B own)) v x ∧ bindT tg x ρ = some ρ' ∧ GOK p (tgSl tg) B own ρ' k σ H Q
def tGs (p : Par) (tgs : Tgs) : TGs := fun vs σ H Q => ∃ B own ρ k xs ρ', ER p.K B own ρ k σ H ∧ Rps p.K (Hd H (hid B own)) vs xs ∧ bindTs tgs xs ρ = some ρ' ∧ GOK p (tgsSl tgs) B own ρ' k σ H Q
theorem _root_.L2.PG.imp {X : Cx} {e : Expr} {t t' : TG} (h : PG X e t) (i : ∀ v σ H Q, t' v σ H Q → t v σ H Q) : PG X e t' := ⟨fun pins s σ H v u Q I r q => h.run pins s σ H v u Q I r (i v σ H Q q)⟩
theorem _root_.L2.PGs.imp {X : Cx} {e : List Expr} {t t' : TGs} (h : PGs X e t) (i : ∀ v σ H Q, t' v σ H Q → t v σ H Q) : PGs X e t' := ⟨fun pins s σ H v u Q I r q => h.run pins s σ H v u Q I r (i v σ H Q q)⟩
def plainT : Expr → Bool
  | .Name _ _ => true
  | .Tuple _ _ _ => true
  | _ => false
theorem ckT_plain {N : List Str} {fn : Str → Bool} {sc : Scope} {t : Tg} {e : Expr} (h : ckT N fn sc t e = true) : plainT e = true := by
  cases e <;> first | rfl | (exfalso; cases t <;> simp [ckT] at h)
theorem ckTs_len {N : List Str} {fn : Str → Bool} {sc : Scope} : ∀ {ts : Tgs} {es : List Expr}, ckTs N fn sc ts es = true → es.all plainT = true ∧ ∀ xs ρ ρ', bindTs ts xs ρ = some ρ' → xs.length = es.length
  | .nil, [], _ => ⟨rfl, fun xs ρ ρ' h => by cases xs <;> simp [bindTs] at h <;> rfl⟩
  | .cons t ts, e :: es, h => by
    rw [ckTs, Bool.and_eq_true] at h
    obtain ⟨h1, h2⟩ := ckTs_len h.2
    refine ⟨by rw [List.all_cons, ckT_plain h.1, h1]; rfl, fun xs ρ ρ' hb => ?_⟩
    cases xs with
    | nil => simp [bindTs] at hb
    | cons x xs =>
      rw [bindTs] at hb
      cases hx : bindT t x ρ with
      | none => rw [hx] at hb; cases hb
      | some ρ1 =>
        rw [hx] at hb
        rw [List.length_cons, List.length_cons, h2 xs ρ1 ρ' hb]
  | .nil, _ :: _, h => by simp [ckTs] at h
  | .cons _ _, [], h => by simp [ckTs] at h
theorem each_plain {env : Env} : ∀ {es : List Expr}, es.all plainT = true → (assignEach es env).length = es.length ∧ (assignEach es env).findIdx? (·.1) = none ∧ (assignEach es env).map (·.2) = es.map fun e => assign e env
  | [], _ => ⟨rfl, rfl, rfl⟩
  | e :: es, h => by
    rw [List.all_cons, Bool.and_eq_true] at h
    obtain ⟨h1, h2, h3⟩ := each_plain (env := env) h.2
    have e0 : assignEach (e :: es) env = (false, assign e env) :: assignEach es env := by
      cases e <;> first | rfl | (simp [plainT] at h)
    rw [e0]
    refine ⟨by rw [List.length_cons, List.length_cons, h1], by rw [List.findIdx?_cons, h2]; rfl, by rw [List.map_cons, List.map_cons, h3]⟩
section
variable {p : Par} {c : Cnt} {C : Ck} {g : G} {W : WX}
mutual
theorem c_tg : ∀ (tg : Tg) {X : Cx} {t : Expr} {fn : Str → Bool}, Good p c C g X W → ckT C.N fn X.env.scope tg t = true → X.fn = fn → PG X t (tG p tg)
  | .nm i, X, t, fn, G, h, hf => by
    cases t with
    | Name x pos =>
      rw [ckT, Bool.and_eq_true] at h
      have hN : X.N[i]? = some x := by rw [G.N]; exact of_decide_eq_true h.1
      have hl := h.2
      unfold locB at hl
      have hloc : Loc X.env.scope x ∧ (X.fn x = true ∨ X.env.scope.names.lookup x = some .local) := by
        split at hl
        · rename_i e; exact ⟨.inl e, .inr e⟩
        · rename_i e; exact ⟨.inr e, .inl (by rw [hf]; exact hl)⟩
        · cases hl
      refine (pg_name (by rw [G.N]; exact G.nd) hN hloc.1 hloc.2).imp fun v σ H Q ⟨B, own, ρ, k, y, ρ', er, q, hb, ok⟩ => ?_
      unfold bindT at hb
      split at hb
      · rename_i hi
        cases hb
        refine ok _ (er.put hi q) ⟨List.length_set .., fun j hj => ?_⟩
        have hj : ¬ j = i := by simpa [tgSl] using hj
        rw [List.getElem?_set_ne (Ne.symm hj)]
      · cases hb
    | _ => simp [ckT] at h
  | .tp ts, X, t, fn, G, h, hf => by
    cases t with
    | Tuple es kk pos =>
      rw [ckT] at h
      obtain ⟨h1, h2⟩ := ckTs_len h
      obtain ⟨e1, e2, e3⟩ := each_plain (env := X.env) h1
      refine (pg_tup G.calm (c_tgs ts G h hf) e1 e2).imp fun v σ H Q ⟨B, own, ρ, k, y, ρ', er, q, hb, ok⟩ => ?_
      cases y with
      | tuple l =>
        have hb : bindTs ts l ρ = some ρ' := hb
        cases q with
        | tup s1 n1 s2 t1 =>
          refine ⟨_, _, rfl, ?_, ?_, B, own, ρ, k, l, ρ', er, t1, hb, ok⟩
          · rw [G.K]; exact SqT.same Hd.le s1
          · rw [t1.length]; exact h2 l ρ ρ' hb
      | _ => cases hb
    | _ => simp [ckT] at h
  | .st _ _, _, t, _, _, h, _ => by cases t <;> simp [ckT] at h
theorem c_tgs : ∀ (ts : Tgs) {X : Cx} {es : List Expr} {fn : Str → Bool}, Good p c C g X W → ckTs C.N fn X.env.scope ts es = true → X.fn = fn → PGs X es (tGs p ts)
  | .nil, X, [], fn, G, h, hf => pgs_nil.imp fun v σ H Q ⟨B, own, ρ, k, y, ρ', er, q, hb, ok⟩ => by
    cases y with
    | nil =>
      cases q
      cases hb
      exact ⟨rfl, ok σ (by rw [show tgsSl .nil = [] from rfl, lessL_nil]; exact er) OnlyS.refl⟩
    | cons _ _ => simp [bindTs] at hb
  | .cons t ts, X, e :: es, fn, G, h, hf => by
    rw [ckTs, Bool.and_eq_true] at h
    have hp := ckT_plain h.1
    have hs : (assignEach (e :: es) X.env).map (·.2) = assign e X.env :: (assignEach es X.env).map (·.2) := by
      cases e <;> first | rfl | (simp [plainT] at hp)
    refine (pgs_cons (c_tg t G h.1 hf) (c_tgs ts G h.2 hf) hs).imp fun v σ H Q ⟨B, own, ρ, k, y, ρ', er, q, hb, ok⟩ => ?_
    cases y with
    | nil => simp [bindTs] at hb
    | cons x xs =>
      rw [bindTs] at hb
      cases hx : bindT t x ρ with
      | none => rw [hx] at hb; cases hb
      | some ρ1 =>
        rw [hx] at hb
        cases q with
        | cons q1 qs =>
          refine ⟨_, _, rfl, B, own, ρ, k, x, ρ1, er, q1, hx, fun σ1 er1 o1 => ?_⟩
          exact ⟨B, _, ρ1, k, xs, ρ', er1, qs.mono lessL_hd, hb, fun σ2 er2 o2 => ok σ2 (by rw [lessL_app] at er2; exact er2) (o1.trans o2)⟩
  | .nil, _, _ :: _, _, _, h, _ => by simp [ckTs] at h
  | .cons _ _, _, [], _, _, h, _ => by simp [ckTs] at h
end
end
end Y

namespace Y
open PySem PySem.W PySem.Spec PyProof.Rows L2
variable [TownS]
/-! ### what is gone through -/
/-- the data stay: all that is not kept apart -/
def Kp (B : Bs) (own : Nat → Option Addr) (H H' : Hp) : Prop := ∀ b o, H b = some o → ¬ hid B own b → H' b = some o
def Src (B : Bs) (own : Nat → Option Addr) (tr : Bool) (H H' : Hp) : Prop := if tr = true then Stp B H H' else Kp B own H H'
theorem Stp.kp {B : Bs} {own : Nat → Option Addr} {H H' : Hp} (s : Stp B H H') : Kp B own H H' := fun b o e n => s b o e fun t => n (isT_hid t)
theorem Stp.src {B : Bs} {own : Nat → Option Addr} {H H' : Hp} {tr : Bool} (s : Stp B H H') : Src B own tr H H' := by
  unfold Src
  split
  · exact s
  · exact s.kp
section
variable {K : PySem.W.Frag} {B : Bs} {own : Nat → Option Addr} {ρ : Rho} {k : Nat} {σ : L2.St} {H H1 H' : Hp} {v : V} {d : D} {kd : Kd}
/-- a list's items, and that it stays -/
theorem RV.listS (r : ER K B own ρ k σ H') {l : List D} (q : RV K B own H H' kd v (.list l)) : ∃ a vs, v = .ref a ∧ SqL K H' a vs ∧ (∀ H2, Src B own (isTr kd) H' H2 → SqL K H2 a vs) ∧ vs.length ≤ sizeLine ∧ Rps K (Hd H' (hid B own)) vs l := by
  have pl : ∀ {tr}, Rp K (Hd H' (hid B own)) v (.list l) → ∃ a vs, v = .ref a ∧ SqL K H' a vs ∧ (∀ H2, Src B own tr H' H2 → SqL K H2 a vs) ∧ vs.length ≤ sizeLine ∧ Rps K (Hd H' (hid B own)) vs l := fun {tr} q => by
    cases q with
    | lst h1 h2 h3 =>
      refine ⟨_, _, rfl, SqL.same Hd.le h1, fun H2 s => SqL.same (fun a o e => ?_) h1, h2, h3⟩
      unfold Src at s
      split at s
      · exact s a o (Hd.le a o e) fun t => Hd.np e (isT_hid t)
      · exact s a o (Hd.le a o e) (Hd.np e)
  cases kd with
  | pl => exact pl q
  | tr =>
    rcases q with q | ⟨i, a, h, rfl, ⟨l', e', vs, h1, h2, h3⟩ | ⟨l', e', _⟩⟩
    · exact pl q
    · cases e'
      exact ⟨a, vs, rfl, SqL.of h1, fun H2 s => SqL.of (s a _ h1 (r.notT h)), h2, h3⟩
    · cases e'
  | fr => exact pl (RV.plain q (by simp))
theorem RV.tupS (r : ER K B own ρ k σ H') {l : List D} (q : RV K B own H H' kd v (.tuple l)) : ∃ a vs, v = .ref a ∧ SqT K H' a vs ∧ (∀ H2, Kp B own H' H2 → SqT K H2 a vs) ∧ vs.length ≤ sizeLine ∧ Rps K (Hd H' (hid B own)) vs l := by
  have pl : Rp K (Hd H' (hid B own)) v (.tuple l) → ∃ a vs, v = .ref a ∧ SqT K H' a vs ∧ (∀ H2, Kp B own H' H2 → SqT K H2 a vs) ∧ vs.length ≤ sizeLine ∧ Rps K (Hd H' (hid B own)) vs l := fun q => by
    cases q with
    | tup h1 h2 h4 h3 => exact ⟨_, _, rfl, SqT.same Hd.le h1, fun H2 s => SqT.same (fun a o e => s a o (Hd.le a o e) (Hd.np e)) h1, h2, h3⟩
  obtain ⟨a, vs, e, _, _, _, q⟩ := q.tup
  exact pl q
end
/-- what comes at a turn: an item as it is, or a new pair of two -/
def Yd (K : PySem.W.Frag) (G : Hp) (x : V) (d : D) (H2 H3 : Hp) : Prop :=
  (H3 = H2 ∧ Rp K G x d) ∨ ∃ T a b da db, x = .ref T ∧ H2 T = none ∧ H3 = upd H2 T (.tup [a, b]) ∧ d = .tuple [da, db] ∧ Rp K G a da ∧ Rp K G b db
def ItR (K : PySem.W.Frag) (B : Bs) (own : Nat → Option Addr) (J : L2.It) (l : List D) (H1 : Hp) (tr : Bool) : Prop :=
  ∃ (S : Hp → Prop) (Y : Nat → Hp → V → Hp → Prop), L2.Walk J l.length S Y ∧ (∀ H2, Src B own tr H1 H2 → S H2) ∧
    ∀ (i : Nat) H2 x H3, i < l.length → Y i H2 x H3 → ∃ d, l[i]? = some d ∧ Yd K (Hd H1 (hid B own)) x d H2 H3
def OKI (p : Par) (B : Bs) (own : Nat → Option Addr) (ρ : Rho) (σ : L2.St) (H : Hp) (it : Y.It) (R : L2.It → Hp → Prop) (r : List D × Nat) : Prop :=
  ∀ (J : L2.It) H', ER p.K B own ρ r.2 σ H' → Stp B H H' → r.1.length ≤ sizeLine → ItR p.K B own J r.1 H' (trI ρ it) → R J H'
def tI (p : Par) (W : WX) (g : G) (it : Y.It) : TI := fun σ H R => ∃ B own ρ k, ER p.K B own ρ k σ H ∧ FinG (OKI p B own ρ σ H it R) (XP p W B own ρ σ H) (evi g it ρ k)
theorem _root_.L2.PI.imp {X : Cx} {t e : Expr} {w w' : TI} (h : PI X t e w) (i : ∀ σ H R, w' σ H R → w σ H R) : PI X t e w' := ⟨fun pins s σ H R I q => h.run pins s σ H R I (i σ H R q)⟩
theorem pairUp_get : ∀ {l m : List D} {i : Nat} {a b : D}, l[i]? = some a → m[i]? = some b → (pairUp l m)[i]? = some (.tuple [a, b])
  | x :: l, y :: m, 0, a, b, h1, h2 => by
    have e1 : x = a := Option.some.inj h1
    have e2 : y = b := Option.some.inj h2
    subst e1 e2
    rfl
  | x :: l, y :: m, i + 1, a, b, h1, h2 => by
    show (pairUp l m)[i]? = _
    exact pairUp_get h1 h2
  | [], _, _, _, _, h1, _ => by simp at h1
  | _ :: _, [], _, _, _, _, h2 => by simp at h2
theorem pairUp_len : ∀ {l m : List D}, (pairUp l m).length = min l.length m.length
  | x :: l, y :: m => by
    show (pairUp l m).length + 1 = min (l.length + 1) (m.length + 1)
    rw [pairUp_len]
    omega
  | [], m => by simp [pairUp]
  | _ :: _, [] => by simp [pairUp]
theorem rangeD_get {n : Int} {i : Nat} (h : i < n.toNat) : (rangeD n)[i]? = some (.int (i : Nat)) := by
  unfold rangeD
  rw [List.getElem?_map, List.getElem?_range h]
  rfl
theorem rangeD_len {n : Int} : (rangeD n).length = n.toNat := by
  unfold rangeD
  rw [List.length_map, List.length_range]
section
variable {p : Par} {c : Cnt} {C : Ck} {g : G} {X : Cx} {W : WX} {t : Expr}
theorem OKI.later {B : Bs} {own : Nat → Option Addr} {ρ : Rho} {σ : L2.St} {H H1 : Hp} {it : Y.It} {R : L2.It → Hp → Prop} {r : List D × Nat} (s : Stp B H H1) (h : OKI p B own ρ σ H it R r) : OKI p B own ρ σ H1 it R r := fun J H' er s' n q => h J H' er (s.trans s') n q
theorem i_lst (G : Good p c C g X W) {e : E} {x : Expr} (h : PE X x (tE p W g e)) : PI X t x (tI p W g (.lst e)) :=
  (pi_list h).imp fun σ H R ⟨B, own, ρ, k, er, f⟩ => by
    unfold evi at f
    refine tE.bind (okβ := fun H r => OKI p B own ρ σ H (.lst e) R r) er f (fun H1 k1 r s er1 h => h.later s) fun d k1 v H1 er1 s1 q1 f => ?_
    obtain ⟨l, hl, f⟩ := FinG.of f
    have e : d = .list l := by cases d <;> simp [getL] at hl; rw [hl]
    subst e
    obtain ⟨a, vs, rfl, a1, a2, a3, a4⟩ := q1.listS er1
    rw [G.K]
    refine ⟨a, rfl, ⟨vs, a1⟩, f _ H1 er1 Stp.refl (by rw [← a4.length]; exact a3) ⟨fun H2 => SqL p.K H2 a vs, YAt vs, ?_, a2, fun i H2 x H3 hi hy => ?_⟩⟩
    · have w := walk_list (K := p.K) (a := a) (xs := vs)
      rw [a4.length] at w
      exact w
    · obtain ⟨e1, e2⟩ := hy
      obtain ⟨d, h1, h2⟩ := a4.getV e2
      exact ⟨d, h1, .inl ⟨e1, h2⟩⟩
theorem i_tup (G : Good p c C g X W) {e : E} {x : Expr} (h : PE X x (tE p W g e)) : PI X t x (tI p W g (.tup e)) :=
  (pi_tup h).imp fun σ H R ⟨B, own, ρ, k, er, f⟩ => by
    unfold evi at f
    refine tE.bind (okβ := fun H r => OKI p B own ρ σ H (.tup e) R r) er f (fun H1 k1 r s er1 h => h.later s) fun d k1 v H1 er1 s1 q1 f => ?_
    obtain ⟨l, hl, f⟩ := FinG.of f
    have e : d = .tuple l := by cases d <;> simp [getT] at hl; rw [hl]
    subst e
    obtain ⟨a, vs, rfl, a1, a2, a3, a4⟩ := q1.tupS er1
    rw [G.K]
    refine ⟨a, rfl, ⟨vs, a1⟩, f _ H1 er1 Stp.refl (by rw [← a4.length]; exact a3) ⟨fun H2 => SqT p.K H2 a vs, YAt vs, ?_, a2, fun i H2 x H3 hi hy => ?_⟩⟩
    · have w := walk_tup (K := p.K) (a := a) (xs := vs)
      rw [a4.length] at w
      exact w
    · obtain ⟨e1, e2⟩ := hy
      obtain ⟨d, h1, h2⟩ := a4.getV e2
      exact ⟨d, h1, .inl ⟨e1, h2⟩⟩
theorem i_rng (G : Good p c C g X W) {e : E} {x : Expr} {p1 p2 : Pos} (hv : glB X.env.scope "range" = true) (hb : C.bl.contains ("range" : Str) = true) (hx : plainX x = true) (h : PE X x (tE p W g e)) : PI X t (.Call (.Name "range" p1) [x] [] p2) (tI p W g (.rng e)) := by
  have hmg : X.mg "range" = none := by rw [G.mg]; exact G.tab.bl "range" (by simpa using hb)
  refine (pi_range1 (gl_of hv) hmg (pa_cons h pa_nil (plain_star hx)) (plain_star hx)).imp fun σ H R ⟨B, own, ρ, k, er, f⟩ => ?_
  unfold evi at f
  refine tE.bind (okβ := fun H r => OKI p B own ρ σ H (.rng e) R r) er f (fun H1 k1 r s er1 h => h.later s) fun d k1 v H1 er1 s1 q1 f => ?_
  obtain ⟨l, hl, f⟩ := FinG.of f
  cases d with
  | int n =>
    unfold getR at hl
    simp only at hl
    split at hl
    · rename_i hn
      have hn := of_decide_eq_true hn
      cases hl
      refine ⟨n, by rw [(q1.weak er1).int_inv], hn.1, hn.2.1, f _ H1 er1 Stp.refl (by rw [rangeD_len, sizeLine_eq]; omega) ⟨fun _ => True, YFn fun i => .int (0 + i), ?_, fun _ _ => trivial, fun i H2 x H3 hi hy => ?_⟩⟩
      · rw [rangeD_len]
        exact walk_range
      · rw [rangeD_len] at hi
        obtain ⟨e1, e2⟩ := hy
        refine ⟨_, rangeD_get hi, .inl ⟨e1, ?_⟩⟩
        rw [e2]
        show Rp _ _ (V.int (0 + (i : Int))) _
        rw [Int.zero_add]
        exact .int _
    · cases hl
  | _ => cases hl
end
/-! ### a list made by going through -/
section
variable {K : PySem.W.Frag} {B : Bs} {own : Nat → Option Addr} {ρ : Rho} {k : Nat} {σ : L2.St} {H H1 H' : Hp} {v : V} {d : D}
/-- one address more is kept apart -/
def Bs.and (B : Bs) (D0 : Addr) : Bs := { B with P0 := fun a => B.P0 a ∨ a = D0, tp := fun t f h => .inl (B.tp t f h) }
theorem and_isT {D0 a : Addr} : (B.and D0).isT a ↔ B.isT a := Iff.rfl
theorem and_hid {D0 a : Addr} : hid (B.and D0) own a ↔ hid B own a ∨ a = D0 := by
  unfold hid Bs.and
  constructor
  · rintro ((h | h) | h)
    · exact .inl (.inl h)
    · exact .inr h
    · exact .inl (.inr h)
  · rintro ((h | h) | h)
    · exact .inl (.inl h)
    · exact .inr h
    · exact .inl (.inr h)
theorem and_hd {D0 : Addr} : ∀ a o, Hd H (hid (B.and D0) own) a = some o → Hd H (hid B own) a = some o := Hd.less fun a h => and_hid.mpr (.inl h)
/-- data of the heap ahead of D0 -/
theorem hd_new {D0 : Addr} (hD : H D0 = none) (s : Stp B H H') : ∀ a o, Hd H (hid B own) a = some o → Hd H' (hid (B.and D0) own) a = some o := fun a o e => by
  have e1 := Hd.le a o e
  refine Hd.at (fun h => ?_) (s a o e1 fun t => Hd.np e (isT_hid t))
  rcases and_hid.mp h with h | h
  · exact Hd.np e h
  · rw [h, hD] at e1
    cases e1
theorem SVR.and {D0 : Addr} (hD : H D0 = none) (r : ER K B own ρ k σ H) (s : Stp B H H') {i : Nat} {sv : SV} (q : SVR K B own H i v sv) : SVR K (B.and D0) own H' i v sv := by
  cases sv with
  | d x => exact Rp.mono (hd_new hD s) q
  | own l =>
    obtain ⟨a, h1, h2, h3⟩ := q
    exact ⟨a, h1, h2, h3.step (fun o e => s a o e (r.notT h1)) (hd_new hD s)⟩
  | ownd t l =>
    obtain ⟨a, h1, h2, h3⟩ := q
    exact ⟨a, h1, h2, h3.step (fun o e => s a o e (r.notT h1)) (hd_new hD s)⟩
  | town => exact q
  | scr => exact Rp.mono (hd_new hD s) q
theorem ER.and {D0 : Addr} {o : HO} (r : ER K B own ρ k σ H) (hD : H D0 = none) : ER K (B.and D0) own ρ k σ (upd H D0 o) where
  len := r.len
  inj := r.inj
  dom0 := fun a h => by
    by_cases e : a = D0
    · rw [e, upd_same]; simp
    · rw [upd_ne e]
      rcases h with h | h
      · exact r.dom0 a h
      · exact absurd h e
  np := fun i a h z => by
    rcases z with z | z
    · exact r.np i a h z
    · obtain ⟨_, o', e, _⟩ := r.new i a h
      rw [z, hD] at e
      cases e
  kind := r.kind
  new := fun i a h => by
    obtain ⟨h1, o', h2, h3⟩ := r.new i a h
    exact ⟨h1, o', same_new hD a o' h2, h3⟩
  base := fun b o' e n => same_new hD b o' (r.base b o' e n)
  town := fun t f e => same_new hD _ _ (r.town t f e)
  slot := fun i sv e => by
    obtain ⟨u, h1, h2⟩ := r.slot i sv e
    exact ⟨u, h1, SVR.and hD r (Stp.same (same_new hD)) h2⟩
theorem ER.unand {D0 : Addr} (r : ER K (B.and D0) own ρ k σ H) : ER K B own ρ k σ H where
  len := r.len
  inj := r.inj
  dom0 := fun a h => r.dom0 a (.inl h)
  np := fun i a h z => r.np i a h (.inl z)
  kind := r.kind
  new := r.new
  base := r.base
  town := r.town
  slot := fun i sv e => by
    obtain ⟨u, h1, h2⟩ := r.slot i sv e
    refine ⟨u, h1, ?_⟩
    cases sv with
    | d x => exact Rp.mono and_hd h2
    | own l =>
      obtain ⟨a, h1, h2, h3⟩ := h2
      exact ⟨a, h1, h2, h3.step (fun o e => e) and_hd⟩
    | ownd t l =>
      obtain ⟨a, h1, h2, h3⟩ := h2
      exact ⟨a, h1, h2, h3.step (fun o e => e) and_hd⟩
    | town => exact h2
    | scr => exact Rp.mono and_hd h2
/-- what is kept apart is written -/
theorem ER.write0 {D0 : Addr} {o : HO} (r : ER K B own ρ k σ H) (h0 : B.P0 D0) (hT : ¬ B.isT D0) (hn : B.H0 D0 = none) : ER K B own ρ k σ (upd H D0 o) := by
  have ne : ∀ {a u}, Hd H (hid B own) a = some u → a ≠ D0 := fun e z => Hd.np e (z ▸ .inl h0)
  have hd : ∀ a u, Hd H (hid B own) a = some u → Hd (upd H D0 o) (hid B own) a = some u := fun a u e => Hd.at (Hd.np e) (by rw [upd_ne (ne e)]; exact Hd.le a u e)
  have ow : ∀ {i a}, own i = some a → a ≠ D0 := fun {i a} h z => r.np i a h (z ▸ h0)
  exact {
    len := r.len
    inj := r.inj
    dom0 := fun a h => by
      by_cases e : a = D0
      · rw [e, upd_same]; simp
      · rw [upd_ne e]; exact r.dom0 a h
    np := r.np
    kind := r.kind
    new := fun i a h => by
      obtain ⟨h1, u, h2, h3⟩ := r.new i a h
      exact ⟨h1, u, by rw [upd_ne (ow h)]; exact h2, h3⟩
    base := fun b u e n => by
      have : b ≠ D0 := fun z => by rw [z, hn] at e; cases e
      rw [upd_ne this]
      exact r.base b u e n
    town := fun t f e => by
      have : t ≠ D0 := fun z => hT ⟨f, z ▸ e⟩
      rw [upd_ne this]
      exact r.town t f e
    slot := fun i sv e => by
      obtain ⟨u, h1, h2⟩ := r.slot i sv e
      refine ⟨u, h1, ?_⟩
      cases sv with
      | d x => exact Rp.mono hd h2
      | own l =>
        obtain ⟨a, h1, h2, h3⟩ := h2
        exact ⟨a, h1, h2, h3.step (fun o e => by rw [upd_ne (ow h1)]; exact e) hd⟩
      | ownd t l =>
        obtain ⟨a, h1, h2, h3⟩ := h2
        exact ⟨a, h1, h2, h3.step (fun o e => by rw [upd_ne (ow h1)]; exact e) hd⟩
      | town => exact h2
      | scr => exact Rp.mono hd h2 }
theorem wipeR_len : ∀ {vs : List Nat}, (wipeR ρ vs).length = ρ.length
  | [] => rfl
  | v :: vs => by unfold wipeR; rw [List.length_set, wipeR_len]
theorem wipeR_get {i : Nat} : ∀ {vs : List Nat}, (wipeR ρ vs)[i]? = if i ∈ vs then (if i < ρ.length then some none else none) else ρ[i]?
  | [] => by simp [wipeR]
  | v :: vs => by
    unfold wipeR
    by_cases hi : i = v
    · subst hi
      rw [if_pos List.mem_cons_self]
      by_cases hl : i < ρ.length
      · rw [if_pos hl, List.getElem?_set_self (by rw [wipeR_len]; exact hl)]
      · rw [if_neg hl, List.getElem?_eq_none (by rw [List.length_set, wipeR_len]; omega)]
    · rw [List.getElem?_set_ne (Ne.symm hi), wipeR_get (vs := vs)]
      by_cases hm : i ∈ vs
      · rw [if_pos hm, if_pos (List.mem_cons_of_mem _ hm)]
      · rw [if_neg hm, if_neg (by simp [hi, hm])]
theorem wipe_none (r : ER K B own ρ k σ H) {vs : List Nat} (h : wipeOk ρ vs = true) : ∀ i ∈ vs, own i = none := fun i hi => by
  cases e : own i with
  | none => rfl
  | some a =>
    obtain ⟨sv, e1, e2⟩ := r.kind i a e
    have := List.all_eq_true.mp h i hi
    rw [e1] at this
    cases sv <;> simp [isOwn] at e2 <;> simp at this
theorem ER.wipe (r : ER K B own ρ k σ H) {vs : List Nat} (h : wipeOk ρ vs = true) : ER K B own (wipeR ρ vs) k (L2.wipe σ vs) H where
  len := by rw [wipeR_len, wipe_length]; exact r.len
  inj := r.inj
  dom0 := r.dom0
  np := r.np
  kind := fun i a e => by
    have hi : i ∉ vs := fun z => by rw [wipe_none r h i z] at e; cases e
    rw [wipeR_get, if_neg hi]
    exact r.kind i a e
  new := r.new
  base := r.base
  town := r.town
  slot := fun i sv e => by
    rw [wipeR_get] at e
    by_cases hi : i ∈ vs
    · rw [if_pos hi] at e
      split at e <;> cases e
    · rw [if_neg hi] at e
      obtain ⟨u, h1, h2⟩ := r.slot i sv e
      exact ⟨u, by rw [wipe_get, if_neg hi]; exact h1, h2⟩
/-- an item as a datum of now -/
theorem Yd.rp {D0 : Addr} {H2 H3 : Hp} {x : V} (hD : H1 D0 = none) (s : Stp B H1 H2) (r2 : ER K (B.and D0) own ρ k σ H2) (y : Yd K (Hd H1 (hid B own)) x d H2 H3) : ER K (B.and D0) own ρ k σ H3 ∧ Stp B H2 H3 ∧ Rp K (Hd H3 (hid (B.and D0) own)) x d := by
  rcases y with ⟨rfl, q⟩ | ⟨T, a, b, da, db, rfl, hT, rfl, rfl, qa, qb⟩
  · exact ⟨r2, Stp.refl, q.mono (hd_new hD s)⟩
  · refine ⟨r2.alloc hT, Stp.same (same_new hT), new_tup r2 hT (by show 2 ≤ sizeLine; rw [sizeLine_eq]; decide) (.cons (qa.mono (hd_new hD s)) (.cons (qb.mono (hd_new hD s)) .nil))⟩
end
theorem nox_ok {α β : Type} {ok : β → Prop} {exn : Exn → Nat → Prop} {r : R α} {f : α → R β} (h : FinG ok exn (r.nox >>= f)) : FinG (fun a => FinG ok exn (f a)) (fun _ _ => False) r := by
  cases r with
  | ok a => exact h
  | ex x k => exact h.elim
  | no => exact h.elim
end Y

namespace Y
open PySem PySem.W PySem.Spec PyProof.Rows L2
variable [TownS]
abbrev W0 : WX := fun _ _ _ _ => False
/-- a clause's test: none, or one -/
def tTs (p : Par) (g : G) (c : E) (ifs : List Expr) : TT := match ifs with
  | [] => tYes
  | _ => tT p W0 g c
theorem snds {N : List Str} {own : List Nat} : (ownNm N own).map (·.2) = own := by
  unfold ownNm
  rw [List.map_map]
  exact (List.map_congr_left fun _ _ => rfl).trans (List.map_id _)
section
variable {p : Par} {c : Cnt} {C : Ck} {g : G} {X : Cx} {W : WX} {pos : Pos}
theorem FinG.nof {α : Type} {ok ok' : α → Prop} {exn : Exn → Nat → Prop} {r : R α} (h : FinG ok (fun _ _ => False) r) (h1 : ∀ a, ok a → ok' a) : FinG ok' exn r := h.imp h1 fun _ _ z => z.elim
theorem tst_true {c : E} (h : isTrueC c = true) {ρ : Rho} {k : Nat} : tstR (ev g c ρ k) = .ok (true, k) := by
  unfold isTrueC at h
  split at h
  · rfl
  · cases h
/-- the turns of a comprehension -/
theorem comp_turns (G : Good p c C g X W) {own0 : List Nat} {tg : Tg} {cc elt : E} {ifs : List Expr} (hsl : ∀ i ∈ tgSl tg, i ∈ own0) (hif : ifs = [] → isTrueC cc = true)
    {B : Bs} {own : Nat → Option Addr} {ρ : Rho} {k : Nat} {σ : L2.St} {H1 : Hp} {Q : VK} {J : L2.It} {l : List D} {tr : Bool} {D0 : Addr} (hw : wipeOk ρ own0 = true) (er : ER p.K B own ρ k σ H1) (hl : l.length ≤ sizeLine) (itr : ItR p.K B own J l H1 tr) (hD : H1 D0 = none)
    (f : FinG (OK p B own ρ σ H1 .fr Q) (XP p W B own ρ σ H1) (compL (fun x => bindT tg x (wipeR ρ own0)) (fun ρ k => tstR (ev g cc ρ k)) (fun ρ k => if kdOf ρ elt = .tr then R.no else (ev g elt ρ k).nox) l k >>= fun r => R.ok (.list r.1, r.2))) :
    ∃ W' : Nat → Nat → Hp → Prop, (∃ m, W' 0 m (upd H1 D0 (.lst []))) ∧ ∀ i m H, W' i m H →
      (J.stop i H ∧ Q (.ref D0) H) ∨ (J.go i H ∧ ∃ Nx : Hp → Prop, (∀ H', Nx H' → ∃ m', m' < m ∧ W' (i + 1) m' H') ∧ ∀ x H', J.yld i H x H' → tG p tg x (wipe σ own0) H' fun σ2 H2 => wipe σ2 own0 = wipe σ own0 ∧ tTs p g cc ifs σ2 H2 fun b H3 =>
        if b = true then tE p W0 g elt σ2 H3 fun y H4 => ∃ acc, H4 D0 = some (.lst acc) ∧ acc.length < sizeLine ∧ Nx (upd H4 D0 (.lst (acc ++ [y]))) else Nx H3) := by
  obtain ⟨S, Yp, w, hS, hY⟩ := itr
  have np0 : ¬ hid B own D0 := new_np er hD
  have nT : ¬ B.isT D0 := fun z => np0 (isT_hid z)
  have nH0 : B.H0 D0 = none := by
    cases e : B.H0 D0 with
    | none => rfl
    | some o => rw [er.base D0 o e nT] at hD; cases hD
  have nT' : ¬ (B.and D0).isT D0 := nT
  -- what stands between the turns
  let F : Nat → List D → Nat → Prop := fun i acc k => FinG (OK p B own ρ σ H1 .fr Q) (XP p W B own ρ σ H1) (compL (fun x => bindT tg x (wipeR ρ own0)) (fun ρ k => tstR (ev g cc ρ k)) (fun ρ k => if kdOf ρ elt = .tr then R.no else (ev g elt ρ k).nox) (l.drop i) k >>= fun r => R.ok (.list (acc ++ r.1), r.2))
  let Pv : Nat → Hp → Prop := fun i H => ∃ k acc vs, ER p.K (B.and D0) own ρ k σ H ∧ Stp B H1 H ∧ H D0 = some (.lst vs) ∧ Rps p.K (Hd H (hid (B.and D0) own)) vs acc ∧ vs.length ≤ i ∧ F i acc k
  have step : ∀ {i : Nat} {k : Nat} {acc : List D} {d : D}, l[i]? = some d → F i acc k → ∃ ρ1, bindT tg d (wipeR ρ own0) = some ρ1 ∧
      FinG (fun b => if b.1 = true then kdOf ρ1 elt ≠ .tr ∧ FinG (fun y => F (i + 1) (acc ++ [y.1]) y.2) (fun _ _ => False) (ev g elt ρ1 b.2) else F (i + 1) acc b.2) (fun _ _ => False) (tstR (ev g cc ρ1 k)) := fun {i k acc d} hd hF => by
    have hi : i < l.length := (List.getElem?_eq_some_iff.mp hd).1
    have e : l.drop i = d :: l.drop (i + 1) := by
      rw [List.drop_eq_getElem_cons hi]
      congr 1
      exact (List.getElem?_eq_some_iff.mp hd).2
    have hF : FinG (OK p B own ρ σ H1 .fr Q) (XP p W B own ρ σ H1) (compL (fun x => bindT tg x (wipeR ρ own0)) (fun ρ k => tstR (ev g cc ρ k)) (fun ρ k => if kdOf ρ elt = .tr then R.no else (ev g elt ρ k).nox) (l.drop i) k >>= fun r => R.ok (.list (acc ++ r.1), r.2)) := hF
    rw [e] at hF
    unfold compL at hF
    cases hb : bindT tg d (wipeR ρ own0) with
    | none => rw [hb] at hF; exact hF.elim
    | some ρ1 =>
      rw [hb] at hF
      refine ⟨ρ1, rfl, ?_⟩
      simp only at hF
      cases ht : tstR (ev g cc ρ1 k) with
      | no => rw [ht] at hF; exact hF.elim
      | ex x kk =>
        exfalso
        unfold tstR at ht
        cases he : ev g cc ρ1 k with
        | no => rw [he] at ht; cases ht
        | ex _ _ => rw [he] at ht; cases ht
        | ok r =>
          rw [he] at ht
          have ht : (R.of (truD r.1) >>= fun b => R.ok (b, r.2)) = R.ex x kk := ht
          cases hr : truD r.1 with
          | none => rw [hr] at ht; cases ht
          | some b => rw [hr] at ht; cases ht
      | ok b =>
        rw [ht] at hF
        obtain ⟨b, k1⟩ := b
        show if b = true then _ else _
        cases b with
        | false =>
          rw [if_neg (by decide)]
          exact hF
        | true =>
          rw [if_pos rfl]
          have hF : FinG (OK p B own ρ σ H1 .fr Q) (XP p W B own ρ σ H1) (((if kdOf ρ1 elt = .tr then R.no else (ev g elt ρ1 k1).nox) >>= fun y => compL (fun x => bindT tg x (wipeR ρ own0)) (fun ρ k => tstR (ev g cc ρ k)) (fun ρ k => if kdOf ρ elt = .tr then R.no else (ev g elt ρ k).nox) (l.drop (i + 1)) y.2 >>= fun r => R.ok (y.1 :: r.1, r.2)) >>= fun r => R.ok (.list (acc ++ r.1), r.2)) := hF
          by_cases hk : kdOf ρ1 elt = .tr
          · rw [if_pos hk] at hF; exact hF.elim
          · rw [if_neg hk] at hF
            refine ⟨hk, ?_⟩
            cases he : ev g elt ρ1 k1 with
            | no => rw [he] at hF; exact hF.elim
            | ex _ _ => rw [he] at hF; exact hF.elim
            | ok y =>
              rw [he] at hF
              show F (i + 1) (acc ++ [y.1]) y.2
              have hF : FinG (OK p B own ρ σ H1 .fr Q) (XP p W B own ρ σ H1) ((compL (fun x => bindT tg x (wipeR ρ own0)) (fun ρ k => tstR (ev g cc ρ k)) (fun ρ k => if kdOf ρ elt = .tr then R.no else (ev g elt ρ k).nox) (l.drop (i + 1)) y.2 >>= fun r => R.ok (y.1 :: r.1, r.2)) >>= fun r => R.ok (.list (acc ++ r.1), r.2)) := hF
              show FinG (OK p B own ρ σ H1 .fr Q) (XP p W B own ρ σ H1) (compL (fun x => bindT tg x (wipeR ρ own0)) (fun ρ k => tstR (ev g cc ρ k)) (fun ρ k => if kdOf ρ elt = .tr then R.no else (ev g elt ρ k).nox) (l.drop (i + 1)) y.2 >>= fun r => R.ok (PyData.list (acc ++ [y.1] ++ r.1), r.2))
              cases hc : compL (fun x => bindT tg x (wipeR ρ own0)) (fun ρ k => tstR (ev g cc ρ k)) (fun ρ k => if kdOf ρ elt = .tr then R.no else (ev g elt ρ k).nox) (l.drop (i + 1)) y.2 with
              | no => rw [hc] at hF; exact hF
              | ex _ _ => rw [hc] at hF; exact hF
              | ok r =>
                rw [hc] at hF
                have hF : OK p B own ρ σ H1 .fr Q (.list (acc ++ (y.1 :: r.1)), r.2) := hF
                show OK p B own ρ σ H1 .fr Q (.list (acc ++ [y.1] ++ r.1), r.2)
                rw [List.append_assoc]
                exact hF
  have wn := wipe_none er hw
  have ownE : lessL own (tgSl tg) = own := lessL_self fun i hi => wn i (hsl i hi)
  refine lc_it (vs := own0) w Pv ⟨k, [], [], er.and hD, Stp.same (same_new hD), upd_same, .nil, Nat.le_refl _, ?_⟩ (fun i H _ ⟨k, acc, vs, er', s', _⟩ => hS H s'.src) (fun i x H H' hi ⟨k, acc, vs, er', s', hv, hq, hn, hF⟩ hy => ?_) (fun H ⟨k, acc, vs, er', s', hv, hq, hn, hF⟩ => ?_)
  · show FinG _ _ _
    rw [List.drop_zero]
    exact f
  · obtain ⟨d, hd, yd⟩ := hY i H x H' hi hy
    obtain ⟨er2, s2, qx⟩ := yd.rp hD s' er'
    obtain ⟨ρ1, hb, hF⟩ := step hd hF
    have hv2 : H' D0 = some (.lst vs) := by
      have := s2 D0 _ hv nT
      exact this
    refine ⟨B.and D0, own, wipeR ρ own0, k, d, ρ1, er2.wipe hw, qx, hb, fun σ2 er3 o3 => ⟨o3.wipe hsl |>.trans ?_, ?_⟩⟩
    · -- wiped twice
      apply List.ext_getElem?
      intro j
      rw [wipe_get, wipe_get, wipe_length]
      by_cases hm : j ∈ own0
      · rw [if_pos hm, if_pos hm]
      · rw [if_neg hm, if_neg hm]
    · rw [ownE] at er3
      -- the item's part behind the test
      have body : ∀ {b : Bool} {k3 : Nat} {H3 : Hp}, ER p.K (B.and D0) own ρ1 k3 σ2 H3 → Stp B H' H3 → (if b = true then kdOf ρ1 elt ≠ .tr ∧ FinG (fun y => F (i + 1) (acc ++ [y.1]) y.2) (fun _ _ => False) (ev g elt ρ1 k3) else F (i + 1) acc k3) →
          if b = true then tE p W0 g elt σ2 H3 fun y H4 => ∃ acc, H4 D0 = some (.lst acc) ∧ acc.length < sizeLine ∧ Pv (i + 1) (upd H4 D0 (.lst (acc ++ [y]))) else Pv (i + 1) H3 := fun {b k3 H3} er4 s4 hh => by
        have out : ∀ {k4 : Nat} {H4 : Hp}, ER p.K (B.and D0) own ρ1 k4 σ2 H4 → Stp B H' H4 → ER p.K (B.and D0) own ρ k4 σ H4 ∧ Stp B H1 H4 ∧ H4 D0 = some (.lst vs) ∧ Rps p.K (Hd H4 (hid (B.and D0) own)) vs acc := fun {k4 H4} er5 s5 => by
          have s6 : Stp (B.and D0) H H4 := fun b o e n => s5 b o (s2 b o e n) n
          exact ⟨er'.step s6 er5.town, fun b o e n => s6 b o (s' b o e n) n, s5 _ _ hv2 nT, hq.mono s6.hd⟩
        cases b with
        | false =>
          rw [if_neg (by decide)] at hh ⊢
          obtain ⟨o1, o2, o3, o4⟩ := out er4 s4
          exact ⟨k3, acc, vs, o1, o2, o3, o4, by omega, hh⟩
        | true =>
          rw [if_pos rfl] at hh ⊢
          refine ⟨B.and D0, own, ρ1, k3, er4, hh.2.imp (fun y hy v H4 er5 s5 q5 => ?_) fun _ _ z => z.elim⟩
          obtain ⟨o1, o2, o3, o4⟩ := out er5 (fun b o e n => s5 b o (s4 b o e n) n)
          have hz : vs.length < sizeLine := by omega
          refine ⟨vs, o3, hz, y.2, acc ++ [y.1], vs ++ [v], o1.write0 (.inr rfl) nT' nH0, fun b o e n => ?_, upd_same, ?_, by rw [List.length_append, List.length_singleton]; omega, hy⟩
          · have hne : b ≠ D0 := fun z => by rw [z, hD] at e; cases e
            rw [upd_ne hne]
            exact o2 b o e n
          · have hm : ∀ a u, Hd H4 (hid (B.and D0) own) a = some u → Hd (upd H4 D0 (.lst (vs ++ [v]))) (hid (B.and D0) own) a = some u := fun a u e => by
              have hne : a ≠ D0 := fun z => Hd.np e (z ▸ .inl (.inr rfl))
              exact Hd.at (Hd.np e) (by rw [upd_ne hne]; exact Hd.le a u e)
            exact (o4.mono hm).append (.cons ((q5.plain hh.1).mono hm) .nil)
      cases ifs with
      | nil =>
        rw [tst_true (hif rfl)] at hF
        exact body (b := true) (k3 := k) er3 Stp.refl hF
      | cons x0 xs0 =>
        have hF' : FinG (fun r => ∃ b, truD r.1 = some b ∧ (if b = true then kdOf ρ1 elt ≠ .tr ∧ FinG (fun y => F (i + 1) (acc ++ [y.1]) y.2) (fun _ _ => False) (ev g elt ρ1 r.2) else F (i + 1) acc r.2)) (fun _ _ => False) (ev g cc ρ1 k) := by
          unfold tstR at hF
          refine (nox_ok hF).imp (fun r hr => ?_) fun _ _ z => z
          obtain ⟨b, h1, h2⟩ := FinG.of hr
          exact ⟨b, h1, h2⟩
        refine ⟨B.and D0, own, ρ1, k, er3, hF'.imp (fun r ⟨b, h1, h2⟩ => ⟨b, h1, fun H3 er4 s4 => body er4 s4 h2⟩) fun _ _ z => z.elim⟩
  · have hF : FinG _ _ _ := hF
    rw [List.drop_length] at hF
    have hF : OK p B own ρ σ H1 .fr Q (.list (acc ++ []), k) := hF
    rw [List.append_nil] at hF
    have hz : vs.length ≤ sizeLine := by omega
    exact hF _ H er'.unand s' ⟨D0, rfl, hD, np0, .inl ⟨acc, rfl, vs, hv, hz, hq.mono (Hd.less fun a h => and_hid.mpr h)⟩⟩
theorem comp_imp (G : Good p c C g X W) {own0 : List Nat} {tg : Tg} {it : Y.It} {cc elt : E} {ifs : List Expr} (hsl : ∀ i ∈ tgSl tg, i ∈ own0) (hif0 : ifs = [] → isTrueC cc = true) {σ : L2.St} {H : Hp} {Q : VK} (h : tE p W g (.comp own0 tg it cc elt) σ H Q) :
    tLc (tI p W g it) (tG p tg) (tTs p g cc ifs) (tE p W0 g elt) ((ownNm C.N own0).map (·.2)) σ H Q := by
  obtain ⟨B, own, ρ, k, er, f⟩ := h
  rw [snds]
  unfold ev at f
  cases hw : wipeOk ρ own0 with
  | false => rw [hw] at f; exact f.elim
  | true =>
    rw [hw] at f
    refine ⟨B, own, ρ, k, er, FinG.imp (FinG.bind f) (fun a ha J H1 er1 s1 hl itr D0 hD => ?_) fun _ _ x => x⟩
    have f2 := ha.2.imp (fun r hr => OK.later s1 er er1 hr) fun x k hx => XP.later s1 hx
    exact comp_turns G hsl hif0 hw er1 hl itr hD f2
theorem c_comp (G : Good p c C g X W) {own0 : List Nat} {tg : Tg} {it : Y.It} {cc elt : E} {e t i : Expr} {ifs : List Expr} {scope : Scope} (hb : blkC C.N X.env.scope scope (ownNm C.N own0) = true) (ht : ckT C.N (fun x => scope.names.lookup x == some .cell) (relS scope X.env.scope) tg t = true)
    (hs : (tgSl tg).all (fun j => own0.contains j) = true) (hi : PI X t i (tI p W g it)) (hpl : plainX i = true)
    (hif : ∀ (s : Shared) (H : Hp) (C0 : Addr) (cl : List (Str × Addr)) (fp : List Addr), PTs (X.blk s H scope (compEnvC scope cl C0 X.env) fp) ifs (tTs p g cc ifs)) (hif0 : ifs = [] → isTrueC cc = true)
    (he : ∀ (s : Shared) (H : Hp) (C0 : Addr) (cl : List (Str × Addr)) (fp : List Addr), PE (X.blk s H scope (compEnvC scope cl C0 X.env) fp) e (tE p W0 g elt)) : PE X (.ListComp e [⟨t, i, ifs, 0⟩] scope pos) (tE p W g (.comp own0 tg it cc elt)) := by
  have hsl : ∀ i ∈ tgSl tg, i ∈ own0 := fun i h => by simpa using List.all_eq_true.mp hs i h
  exact (pe_lc G.calm (by rw [G.N]; exact G.nd) hi (own := ownNm C.N own0) (by rw [G.N]; exact blkOk_by hb) (fun s H C0 cl fp => c_tg tg (G.blk s H scope _ fp) ht rfl) hif he (plain_fold hpl)).imp fun σ H Q h => comp_imp G hsl hif0 h
/-- the same, stored into a name on its row -/
theorem c_setLc (G : Good p c C g X W) {own0 : List Nat} {tg : Tg} {it : Y.It} {cc elt : E} {e t i : Expr} {ifs : List Expr} {scope : Scope} {n : Nat} {y : Str} {py spos : Pos} (hy : C.N[n]? = some y) (hyl : X.env.scope.names.lookup y = some .local)
    (hsw : swapsWith (.ListComp e [⟨t, i, ifs, 0⟩] scope pos) (some (.Name y py)) spos.line X.env = pure true) (hb : blkC C.N X.env.scope scope (ownNm C.N own0) = true) (ht : ckT C.N (fun x => scope.names.lookup x == some .cell) (relS scope X.env.scope) tg t = true)
    (hs : (tgSl tg).all (fun j => own0.contains j) = true) (hi : PI X t i (tI p W g it)) (hpl : plainX i = true)
    (hif : ∀ (s : Shared) (H : Hp) (C0 : Addr) (cl : List (Str × Addr)) (fp : List Addr), PTs (X.blk s H scope (compEnvC scope cl C0 X.env) fp) ifs (tTs p g cc ifs)) (hif0 : ifs = [] → isTrueC cc = true)
    (he : ∀ (s : Shared) (H : Hp) (C0 : Addr) (cl : List (Str × Addr)) (fp : List Addr), PE (X.blk s H scope (compEnvC scope cl C0 X.env) fp) e (tE p W0 g elt)) :
    PS X (.Assign [.Name y py] (.ListComp e [⟨t, i, ifs, 0⟩] scope pos) spos) (tAsg (tE p W g (.comp own0 tg it cc elt)) (gName n)) := by
  have hsl : ∀ i ∈ tgSl tg, i ∈ own0 := fun i h => by simpa using List.all_eq_true.mp hs i h
  have h := ps_setLc (i := n) G.calm (by rw [G.N]; exact G.nd) (by rw [G.N]; exact hy) hyl hsw hi (own := ownNm C.N own0) (by rw [G.N]; exact blkOk_by hb) (fun s H C0 cl fp => c_tg tg (G.blk s H scope _ fp) ht rfl) hif he (plain_fold hpl)
  exact ⟨fun pins s σ H D I q => h.run pins s σ H D I (comp_imp G hsl hif0 q)⟩
end
end Y

namespace Y
open PySem PySem.W PySem.Spec PyProof.Rows L2
variable [TownS]
/-! ### two clauses -/
theorem bind_inv {α β : Type} {m : R α} {f : α → R β} {b : β} (h : (m >>= f) = .ok b) : ∃ a, m = .ok a ∧ f a = .ok b := by
  cases m with
  | ok a => exact ⟨a, rfl, h⟩
  | ex _ _ => cases h
  | no => cases h
theorem nox_inv {α : Type} {r : R α} {a : α} (h : r.nox = .ok a) : r = .ok a := by
  cases r with
  | ok a => exact h
  | ex _ _ => cases h
  | no => cases h
theorem tstR_inv {r : R (D × Nat)} {b : Bool} {k : Nat} (h : tstR r = .ok (b, k)) : ∃ x, r = .ok (x, k) ∧ truD x = some b := by
  unfold tstR at h
  obtain ⟨a, h1, h2⟩ := bind_inv h
  obtain ⟨b', h3, h4⟩ := bind_inv h2
  cases h4
  refine ⟨a.1, nox_inv h1, ?_⟩
  cases ht : truD a.1 with
  | none => rw [ht] at h3; cases h3
  | some x => rw [ht] at h3; cases h3; rfl
theorem compL_inv {bnd : D → Option Rho} {tst : Rho → Nat → R (Bool × Nat)} {elt : Rho → Nat → R (D × Nat)} {x : D} {l : List D} {k kf : Nat} {r : List D} (h : compL bnd tst elt (x :: l) k = .ok (r, kf)) :
    ∃ ρ b k1, bnd x = some ρ ∧ tst ρ k = .ok (b, k1) ∧ (if b = true then ∃ y k2 r2, elt ρ k1 = .ok (y, k2) ∧ compL bnd tst elt l k2 = .ok (r2, kf) ∧ r = y :: r2 else compL bnd tst elt l k1 = .ok (r, kf)) := by
  unfold compL at h
  cases hb : bnd x with
  | none => rw [hb] at h; cases h
  | some ρ =>
    rw [hb] at h
    dsimp only at h
    obtain ⟨bk, h1, h2⟩ := bind_inv h
    obtain ⟨b, k1⟩ := bk
    refine ⟨ρ, b, k1, rfl, h1, ?_⟩
    cases b with
    | false => exact h2
    | true =>
      rw [if_pos rfl]
      dsimp only at h2
      rw [if_pos rfl] at h2
      obtain ⟨yk, h3, h4⟩ := bind_inv h2
      obtain ⟨rk, h5, h6⟩ := bind_inv h4
      cases h6
      exact ⟨_, _, _, h3, h5, rfl⟩
theorem comp2L_inv {bnd : D → Option Rho} {tst : Rho → Nat → R (Bool × Nat)} {inner : Rho → Nat → R (List D × Nat)} {x : D} {l : List D} {k kf : Nat} {r : List D} (h : comp2L bnd tst inner (x :: l) k = .ok (r, kf)) :
    ∃ ρ b k1, bnd x = some ρ ∧ tst ρ k = .ok (b, k1) ∧ (if b = true then ∃ r1 k2 r2, inner ρ k1 = .ok (r1, k2) ∧ comp2L bnd tst inner l k2 = .ok (r2, kf) ∧ r = r1 ++ r2 else comp2L bnd tst inner l k1 = .ok (r, kf)) := by
  unfold comp2L at h
  cases hb : bnd x with
  | none => rw [hb] at h; cases h
  | some ρ =>
    rw [hb] at h
    dsimp only at h
    obtain ⟨bk, h1, h2⟩ := bind_inv h
    obtain ⟨b, k1⟩ := bk
    refine ⟨ρ, b, k1, rfl, h1, ?_⟩
    cases b with
    | false => exact h2
    | true =>
      rw [if_pos rfl]
      dsimp only at h2
      rw [if_pos rfl] at h2
      obtain ⟨yk, h3, h4⟩ := bind_inv h2
      obtain ⟨rk, h5, h6⟩ := bind_inv h4
      cases h6
      exact ⟨_, _, _, h3, h5, rfl⟩
theorem drop_cons {α : Type} {l : List α} {i : Nat} {d : α} (hd : l[i]? = some d) : l.drop i = d :: l.drop (i + 1) := by
  have hi : i < l.length := (List.getElem?_eq_some_iff.mp hd).1
  rw [List.drop_eq_getElem_cons hi]
  congr 1
  exact (List.getElem?_eq_some_iff.mp hd).2
theorem wipe_wipe {σ : L2.St} {vs : List Nat} : L2.wipe (L2.wipe σ vs) vs = L2.wipe σ vs := by
  apply List.ext_getElem?
  intro j
  rw [wipe_get, wipe_get, wipe_length]
  by_cases hm : j ∈ vs
  · rw [if_pos hm, if_pos hm]
  · rw [if_neg hm, if_neg hm]
section
variable {p : Par} {c : Cnt} {C : Ck} {g : G} {X : Cx} {W : WX} {pos : Pos}
/-- the data stay, no own one is new -/
structure OSx (B : Bs) (own : Nat → Option Addr) (H : Hp) (own' : Nat → Option Addr) (H' : Hp) : Prop where
  kp : Kp B own H H'
  old : ∀ i a, own' i = some a → (∃ j, own j = some a) ∨ H a = none
theorem Yd.rpX {K : PySem.W.Frag} {B : Bs} {own own1 : Nat → Option Addr} {ρ : Rho} {k : Nat} {σ : L2.St} {H1 H H' : Hp} {x : V} {d : D} (y : Yd K (Hd H1 (hid B own)) x d H H') (s : OSx B own H1 own1 H) (er : ER K B own1 ρ k σ H) :
    ER K B own1 ρ k σ H' ∧ Stp B H H' ∧ Rp K (Hd H' (hid B own1)) x d := by
  have hd : ∀ a o, Hd H1 (hid B own) a = some o → Hd H (hid B own1) a = some o := fun a o e => by
    have e1 := Hd.le a o e
    have n := Hd.np e
    refine Hd.at (fun h => ?_) (s.kp a o e1 n)
    rcases h with h | ⟨i, h⟩
    · exact n (.inl h)
    · rcases s.old i a h with ⟨j, h⟩ | h
      · exact n (.inr ⟨j, h⟩)
      · rw [e1] at h; cases h
  rcases y with ⟨rfl, q⟩ | ⟨T, a, b, da, db, rfl, hT, rfl, rfl, qa, qb⟩
  · exact ⟨er, Stp.refl, q.mono hd⟩
  · have sm : Same H (upd H T (.tup [a, b])) := same_new hT
    refine ⟨er.same sm, Stp.same sm, ?_⟩
    exact new_tup er hT (show 2 ≤ sizeLine by decide) (.cons (qa.mono hd) (.cons (qb.mono hd) .nil))
/-- a for over a row's turns, its own invariant: the shape that both loops have -/
theorem turns_it {J : L2.It} {n : Nat} {S : Hp → Prop} {Yp : Nat → Hp → V → Hp → Prop} (w : L2.Walk J n S Yp) {H0 : Hp} {fin : Hp → Prop} {stp : V → Hp → (Hp → Prop) → Prop} (Pv : Nat → Hp → Prop) (h0 : Pv 0 H0) (hG : ∀ i H, i ≤ n → Pv i H → S H)
    (hs : ∀ i x H H', i < n → Pv i H → Yp i H x H' → stp x H' (Pv (i + 1))) (hd : ∀ H, Pv n H → fin H) :
    ∃ W : Nat → Nat → Hp → Prop, (∃ m, W 0 m H0) ∧ ∀ i m H, W i m H → (J.stop i H ∧ fin H) ∨ (J.go i H ∧ ∃ Nx : Hp → Prop, (∀ H', Nx H' → ∃ m', m' < m ∧ W (i + 1) m' H') ∧ ∀ x H', J.yld i H x H' → stp x H' Nx) := by
  refine ⟨fun i m H => m = n - i ∧ i ≤ n ∧ Pv i H, ⟨n, by simp, Nat.zero_le _, h0⟩, ?_⟩
  rintro i m H ⟨rfl, hi, p⟩
  have q := hG i H hi p
  by_cases hlt : i < n
  · exact .inr ⟨w.goes i H hlt q, Pv (i + 1), fun H' p' => ⟨n - (i + 1), by omega, rfl, hlt, p'⟩, fun x H' y => hs i x H H' hlt p (w.yields i H x H' hlt q y)⟩
  · have e : i = n := by omega
    subst e
    exact .inl ⟨w.stops H q, hd H p⟩
theorem tTs_of {cc : E} {ifs : List Expr} (hif : ifs = [] → isTrueC cc = true) {B : Bs} {own : Nat → Option Addr} {ρ : Rho} {k k1 : Nat} {σ : L2.St} {H : Hp} {b : Bool} {Q : Bool → Hp → Prop} (er : ER p.K B own ρ k σ H) (h : tstR (ev g cc ρ k) = .ok (b, k1))
    (q : ∀ H', ER p.K B own ρ k1 σ H' → Stp B H H' → Q b H') : tTs p g cc ifs σ H Q := by
  cases ifs with
  | nil =>
    rw [tst_true (hif rfl)] at h
    cases h
    exact q H er Stp.refl
  | cons _ _ =>
    obtain ⟨x, h1, h2⟩ := tstR_inv h
    exact ⟨B, own, ρ, k, er, by rw [h1]; exact ⟨b, h2, q⟩⟩
theorem comp2_imp (G : Good p c C g X W) {own0 own1 : List Nat} {tg tg1 : Tg} {it it1 : Y.It} {cc cc1 elt : E} {ifs ifs1 : List Expr} (hsl : ∀ i ∈ tgSl tg, i ∈ own0) (hsl1 : ∀ i ∈ tgSl tg1, i ∈ own1) (hif0 : ifs = [] → isTrueC cc = true) (hif1 : ifs1 = [] → isTrueC cc1 = true) {σ : L2.St} {H : Hp} {Q : VK}
    (h : tE p W g (.comp2 own0 tg it cc own1 tg1 it1 cc1 elt) σ H Q) :
    tLc2 (tI p W g it) (tG p tg) (tTs p g cc ifs) (tI p W0 g it1) (tG p tg1) (tTs p g cc1 ifs1) (tE p W0 g elt) ((ownNm C.N own0).map (·.2)) own1 σ H Q := by
  obtain ⟨B, own, ρ, k, er, f⟩ := h
  rw [snds]
  unfold ev at f
  cases hw : wipeOk ρ own0 with
  | false => rw [hw] at f; exact f.elim
  | true =>
    rw [hw] at f
    refine ⟨B, own, ρ, k, er, FinG.imp (FinG.bind f) (fun a ha J H1 er1 s1 hl itr D0 hD => ?_) fun _ _ x => x⟩
    have f2 := ha.2.imp (fun r hr => OK.later s1 er er1 hr) fun x k hx => XP.later s1 hx
    obtain ⟨l, k0⟩ := a
    have f3 := nox_ok f2
    -- the whole result
    have res : ∃ tot kf, comp2L (fun x => bindT tg x (wipeR ρ own0)) (fun ρ k => tstR (ev g cc ρ k)) (fun ρ k => if (!wipeOk ρ own1 || trI ρ it1) = true then .no else (evi g it1 ρ k).nox >>= fun q =>
        compL (fun x => bindT tg1 x (wipeR ρ own1)) (fun ρ k => tstR (ev g cc1 ρ k)) (fun ρ k => if kdOf ρ elt = .tr then .no else (ev g elt ρ k).nox) q.1 q.2) l k0 = .ok (tot, kf) ∧ lim tot.length = true ∧ OK p B own ρ σ H1 .fr Q (.list tot, kf) := by
      generalize comp2L _ _ _ l k0 = r at f3
      cases r with
      | ok r =>
        obtain ⟨tot, kf⟩ := r
        have f3 : FinG (OK p B own ρ σ H1 .fr Q) (XP p W B own ρ σ H1) (if lim tot.length = true then R.ok (.list tot, kf) else .no) := f3
        split at f3
        · rename_i hlim
          exact ⟨tot, kf, rfl, hlim, f3⟩
        · exact f3.elim
      | ex _ _ => exact f3.elim
      | no => exact f3.elim
    obtain ⟨tot, kf, e0, hlim, okT⟩ := res
    have hlim := lim_le hlim
    obtain ⟨S, Yp, w, hS, hY⟩ := itr
    have np0 : ¬ hid B own D0 := new_np er1 hD
    have nT : ¬ B.isT D0 := fun z => np0 (isT_hid z)
    have nH0 : B.H0 D0 = none := by
      cases e : B.H0 D0 with
      | none => rfl
      | some o => rw [er1.base D0 o e nT] at hD; cases hD
    have nT' : ¬ (B.and D0).isT D0 := nT
    have wn := wipe_none er1 hw
    have ownE : lessL own (tgSl tg) = own := lessL_self fun i hi => wn i (hsl i hi)
    generalize hinner : (fun (ρ : Rho) (k : Nat) => if (!wipeOk ρ own1 || trI ρ it1) = true then (R.no : R (List D × Nat)) else (evi g it1 ρ k).nox >>= fun q =>
        compL (fun x => bindT tg1 x (wipeR ρ own1)) (fun ρ k => tstR (ev g cc1 ρ k)) (fun ρ k => if kdOf ρ elt = .tr then .no else (ev g elt ρ k).nox) q.1 q.2) = inner at e0
    let Fo : Nat → List D → Nat → Prop := fun i acc k => ∃ r, comp2L (fun x => bindT tg x (wipeR ρ own0)) (fun ρ k => tstR (ev g cc ρ k)) inner (l.drop i) k = .ok (r, kf) ∧ acc ++ r = tot
    let Pv : Nat → Hp → Prop := fun i H => ∃ k acc vs, ER p.K (B.and D0) own ρ k σ H ∧ Stp B H1 H ∧ H D0 = some (.lst vs) ∧ Rps p.K (Hd H (hid (B.and D0) own)) vs acc ∧ Fo i acc k
    refine turns_it (stp := fun x H' Nx => tG p tg x (wipe σ own0) H' fun σ2 H2 => wipe σ2 own0 = wipe σ own0 ∧ tTs p g cc ifs σ2 H2 fun b H3 => if b = true then tI p W0 g it1 σ2 H3 fun J1 H4 => ∃ W1 : Nat → Nat → Hp → Prop, (∃ m, W1 0 m H4) ∧ ∀ j k H, W1 j k H →
      (J1.stop j H ∧ Nx H) ∨ (J1.go j H ∧ ∃ Nx1 : Hp → Prop, (∀ H', Nx1 H' → ∃ k', k' < k ∧ W1 (j + 1) k' H') ∧ ∀ x H', J1.yld j H x H' → tG p tg1 x (wipe σ2 own1) H' fun σ3 H5 => wipe σ3 own1 = wipe σ2 own1 ∧ tTs p g cc1 ifs1 σ3 H5 fun b H6 =>
        if b = true then tE p W0 g elt σ3 H6 fun y H7 => ∃ acc, H7 D0 = some (.lst acc) ∧ acc.length < sizeLine ∧ Nx1 (upd H7 D0 (.lst (acc ++ [y]))) else Nx1 H6)
      else Nx H3) w Pv ⟨k0, [], [], er1.and hD, Stp.same (same_new hD), upd_same, .nil, tot, by rw [List.drop_zero]; exact e0, rfl⟩ (fun i H _ ⟨k, acc, vs, er', s', _⟩ => hS H s'.src) (fun i x H H' hi ⟨k, acc, vs, er', s', hv, hq, r, hr, ht⟩ hy => ?_) (fun H ⟨k, acc, vs, er', s', hv, hq, r, hr, ht⟩ => ?_)
    · obtain ⟨d, hd, yd⟩ := hY i H x H' hi hy
      obtain ⟨er2, s2, qx⟩ := yd.rp hD s' er'
      rw [drop_cons hd] at hr
      obtain ⟨ρ1, b, k1, hb, htst, hrest⟩ := comp2L_inv hr
      have hv2 : H' D0 = some (.lst vs) := s2 D0 _ hv nT
      refine ⟨B.and D0, own, wipeR ρ own0, k, d, ρ1, er2.wipe hw, qx, hb, fun σ2 er3 o3 => ⟨(o3.wipe hsl).trans wipe_wipe, ?_⟩⟩
      rw [ownE] at er3
      -- from the block back to the turn's end
      have out : ∀ {k4 : Nat} {H4 : Hp}, (∀ t f, B.T = some (t, f) → H4 t = some (.lst (f k4))) → Stp (B.and D0) H H4 → ER p.K (B.and D0) own ρ k4 σ H4 := fun {k4 H4} t s6 => er'.step s6 t
      refine tTs_of hif0 er3 htst fun H3 er4 s4 => ?_
      have s64 : Stp (B.and D0) H H3 := fun b o e n => s4 b o (s2 b o e n) n
      cases b with
      | false =>
        rw [if_neg (by decide)] at hrest ⊢
        exact ⟨k1, acc, vs, out er4.town s64, fun b o e n => s64 b o (s' b o e n) n, s4 _ _ hv2 nT, hq.mono s64.hd, r, hrest, ht⟩
      | true =>
        rw [if_pos rfl] at hrest ⊢
        obtain ⟨r1, k2, r2, hin, hrest, er⟩ := hrest
        subst er
        rw [← hinner] at hin
        dsimp only at hin
        cases hwt : (!wipeOk ρ1 own1 || trI ρ1 it1) with
        | true => rw [hwt] at hin; cases hin
        | false =>
          rw [hwt] at hin
          rw [if_neg (by decide)] at hin
          rw [Bool.or_eq_false_iff] at hwt
          have hw1 : wipeOk ρ1 own1 = true := by simpa using hwt.1
          obtain ⟨q, h1, h2⟩ := bind_inv hin
          obtain ⟨l1, k3⟩ := q
          have h1 := nox_inv h1
          have h2 : compL (fun x => bindT tg1 x (wipeR ρ1 own1)) (fun ρ k => tstR (ev g cc1 ρ k)) (fun ρ k => if kdOf ρ elt = .tr then .no else (ev g elt ρ k).nox) l1 k3 = .ok (r1, k2) := h2
          refine ⟨B.and D0, own, ρ1, k1, er4, ?_⟩
          rw [h1]
          intro J1 H4 er5 s5 hl1 itr1
          rw [hwt.2] at itr1
          obtain ⟨S1, Yp1, w1, hS1, hY1⟩ := itr1
          have wn1 := wipe_none er5 hw1
          have ownE1 : lessL own (tgSl tg1) = own := lessL_self fun i hi => wn1 i (hsl1 i hi)
          have hv4 : H4 D0 = some (.lst vs) := s5 _ _ (s4 _ _ hv2 nT) nT
          have s65 : Stp (B.and D0) H H4 := fun b o e n => s5 b o (s64 b o e n) n
          -- all but the new list stays
          let SD : Hp → Hp → Prop := fun Ha Hb => ∀ b o, Ha b = some o → b ≠ D0 → ¬ B.isT b → Hb b = some o
          have back : ∀ {ρa : Rho} {ka kb : Nat} {σa : L2.St} {Ha Hb : Hp} {o : HO}, ER p.K (B.and D0) own ρa ka σa Ha → SD Ha Hb → Hb D0 = some o → (∀ t f, B.T = some (t, f) → Hb t = some (.lst (f kb))) → ER p.K (B.and D0) own ρa kb σa Hb := fun {ρa ka kb σa Ha Hb o} ea sd eo et => by
            refine (ea.write0 (o := o) (.inr rfl) nT' nH0).step (fun b u e n => ?_) et
            by_cases hb : b = D0
            · subst hb
              rw [upd_same] at e
              cases e
              exact eo
            · rw [upd_ne hb] at e
              exact sd b u e hb n
          let Pv1 : Nat → Hp → Prop := fun j H5 => ∃ k acc1 vs1 r, ER p.K (B.and D0) own ρ1 k σ2 H5 ∧ SD H4 H5 ∧ H5 D0 = some (.lst vs1) ∧ Rps p.K (Hd H5 (hid (B.and D0) own)) vs1 acc1 ∧
            compL (fun x => bindT tg1 x (wipeR ρ1 own1)) (fun ρ k => tstR (ev g cc1 ρ k)) (fun ρ k => if kdOf ρ elt = .tr then .no else (ev g elt ρ k).nox) (l1.drop j) k = .ok (r, k2) ∧ acc1 ++ (r ++ r2) = tot
          have kpOf : ∀ {H5}, SD H4 H5 → Kp (B.and D0) own H4 H5 := fun {H5} sd b o e n => sd b o e (fun z => n (and_hid.mpr (.inr z))) fun z => n (isT_hid (B := B.and D0) z)
          refine turns_it (stp := fun x H' Nx => tG p tg1 x (wipe σ2 own1) H' fun σ3 H5 => wipe σ3 own1 = wipe σ2 own1 ∧ tTs p g cc1 ifs1 σ3 H5 fun b H6 =>
            if b = true then tE p W0 g elt σ3 H6 fun y H7 => ∃ acc, H7 D0 = some (.lst acc) ∧ acc.length < sizeLine ∧ Nx (upd H7 D0 (.lst (acc ++ [y]))) else Nx H6) w1 Pv1 ⟨k3, acc, vs, r1, er5, fun b o e _ _ => e, hv4, hq.mono (Stp.hd s65), by rw [List.drop_zero]; exact h2, by rw [ht]⟩ (fun j H5 _ ⟨k, acc1, vs1, r, ea, sd, _⟩ => hS1 H5 ?_) (fun j x H5 H6 hj ⟨k, acc1, vs1, r, ea, sd, hv5, hq5, hr5, ht5⟩ hy1 => ?_) (fun H5 ⟨k, acc1, vs1, r, ea, sd, hv5, hq5, hr5, ht5⟩ => ?_)
          · unfold Src
            rw [if_neg (by decide)]
            exact kpOf sd
          · obtain ⟨d1, hd1, yd1⟩ := hY1 j H5 x H6 hj hy1
            have os5 : OSx (B.and D0) own H4 own H5 := ⟨kpOf sd, fun i a h => .inl ⟨i, h⟩⟩
            obtain ⟨ea6, s6, qx1⟩ := yd1.rpX os5 ea
            rw [drop_cons hd1] at hr5
            obtain ⟨ρ2, b1, k5, hb1, htst1, hrest1⟩ := compL_inv hr5
            refine ⟨B.and D0, own, wipeR ρ1 own1, k, d1, ρ2, ea6.wipe hw1, qx1, hb1, fun σ3 er7 o7 => ⟨(o7.wipe hsl1).trans wipe_wipe, ?_⟩⟩
            rw [ownE1] at er7
            refine tTs_of hif1 er7 htst1 fun H7 er8 s8 => ?_
            have s68 : Stp (B.and D0) H5 H7 := fun b o e n => s8 b o (s6 b o e n) n
            have hv7 : H7 D0 = some (.lst vs1) := s68 _ _ hv5 nT
            have sd7 : SD H4 H7 := fun b o e n1 n2 => s68 b o (sd b o e n1 n2) n2
            cases b1 with
            | false =>
              rw [if_neg (by decide)] at hrest1 ⊢
              exact ⟨k5, acc1, vs1, r, ea.step s68 er8.town, sd7, hv7, hq5.mono (Stp.hd s68), hrest1, ht5⟩
            | true =>
              rw [if_pos rfl] at hrest1 ⊢
              obtain ⟨y, k6, r3, he, hrest1, er⟩ := hrest1
              subst er
              split at he
              · cases he
              · rename_i hk
                have he := nox_inv he
                refine ⟨B.and D0, own, ρ2, k5, er8, ?_⟩
                rw [he]
                intro v H8 er9 s9 q9
                have s89 : Stp (B.and D0) H5 H8 := fun b o e n => s9 b o (s68 b o e n) n
                have hv8 : H8 D0 = some (.lst vs1) := s9 _ _ hv7 nT
                have hz : vs1.length < sizeLine := by
                  rw [hq5.length]
                  have := congrArg List.length ht5
                  rw [List.length_append, List.length_append, List.length_cons] at this
                  omega
                have hm : ∀ a u, Hd H8 (hid (B.and D0) own) a = some u → Hd (upd H8 D0 (.lst (vs1 ++ [v]))) (hid (B.and D0) own) a = some u := fun a u e => by
                  have hne : a ≠ D0 := fun z => Hd.np e (z ▸ .inl (.inr rfl))
                  exact Hd.at (Hd.np e) (by rw [upd_ne hne]; exact Hd.le a u e)
                have sd8 : SD H4 (upd H8 D0 (.lst (vs1 ++ [v]))) := fun b o e n1 n2 => by
                  rw [upd_ne n1]
                  exact s9 b o (sd7 b o e n1 n2) n2
                have ea8 : ER p.K (B.and D0) own ρ1 k6 σ2 H8 := ea.step s89 er9.town
                refine ⟨vs1, hv8, hz, k6, acc1 ++ [y], vs1 ++ [v], r3, ea8.write0 (.inr rfl) nT' nH0, sd8, upd_same, ((hq5.mono (Stp.hd s89)).mono hm).append (.cons ((q9.plain hk).mono hm) .nil), hrest1, ?_⟩
                rw [← ht5, List.append_assoc]
                rfl
          · rw [List.drop_length] at hr5
            have hr5 : R.ok (([] : List D), k) = .ok (r, k2) := hr5
            cases hr5
            have sd0 : SD H H5 := fun b o e n1 n2 => sd b o (s65 b o e n2) n1 n2
            have e1 := back er' sd0 hv5 ea.town
            refine ⟨_, acc1, vs1, e1, fun b o e n => ?_, hv5, hq5, r2, hrest, ?_⟩
            · have hne : b ≠ D0 := fun z => by rw [z, hD] at e; cases e
              exact sd0 b o (s' b o e n) hne n
            · rw [← ht5]
              rfl
    · rw [List.drop_length] at hr
      have hr : R.ok (([] : List D), k) = .ok (r, kf) := hr
      cases hr
      rw [List.append_nil] at ht
      subst ht
      have hz : vs.length ≤ sizeLine := by rw [hq.length]; exact hlim
      exact okT _ H er'.unand s' ⟨D0, rfl, hD, np0, .inl ⟨acc, rfl, vs, hv, hz, hq.mono (Hd.less fun a h => and_hid.mpr h)⟩⟩
abbrev BlkAt (X : Cx) (F : Cx → Prop) (scope : Scope) : Prop := ∀ (s : Shared) (H : Hp) (C0 : Addr) (cl : List (Str × Addr)) (fp : List Addr), F (X.blk s H scope (compEnvC scope cl C0 X.env) fp)
theorem c_comp2 (G : Good p c C g X W) {own0 own1 : List Nat} {tg tg1 : Tg} {it it1 : Y.It} {cc cc1 elt : E} {e t i t1 i1 : Expr} {ifs ifs1 : List Expr} {scope : Scope} (hb : blkC C.N X.env.scope scope (ownNm C.N own0) = true) (ht : ckT C.N (fun x => scope.names.lookup x == some .cell) (relS scope X.env.scope) tg t = true)
    (ht1 : ckT C.N (fun x => scope.names.lookup x == some .cell) (relS scope X.env.scope) tg1 t1 = true) (hs : (tgSl tg).all (fun j => own0.contains j) = true) (hs1 : (tgSl tg1).all (fun j => own1.contains j) = true) (ho : own1.all (fun j => own0.contains j) = true) (hi : PI X t i (tI p W g it)) (hpl : plainX i = true) (hpl1 : plainX i1 = true)
    (hif : BlkAt X (fun X' => PTs X' ifs (tTs p g cc ifs)) scope) (hif0 : ifs = [] → isTrueC cc = true) (hi1 : BlkAt X (fun X' => PI X' t1 i1 (tI p W0 g it1)) scope) (hif1 : BlkAt X (fun X' => PTs X' ifs1 (tTs p g cc1 ifs1)) scope) (hif10 : ifs1 = [] → isTrueC cc1 = true)
    (he : BlkAt X (fun X' => PE X' e (tE p W0 g elt)) scope) : PE X (.ListComp e [⟨t, i, ifs, 0⟩, ⟨t1, i1, ifs1, 0⟩] scope pos) (tE p W g (.comp2 own0 tg it cc own1 tg1 it1 cc1 elt)) := by
  have hsl : ∀ i ∈ tgSl tg, i ∈ own0 := fun i h => by simpa using List.all_eq_true.mp hs i h
  have hsl1 : ∀ i ∈ tgSl tg1, i ∈ own1 := fun i h => by simpa using List.all_eq_true.mp hs1 i h
  have hoo : ∀ i ∈ own1, i ∈ (ownNm C.N own0).map (·.2) := fun i h => by rw [snds]; simpa using List.all_eq_true.mp ho i h
  exact (pe_lc2 G.calm (by rw [G.N]; exact G.nd) hi (own := ownNm C.N own0) (by rw [G.N]; exact blkOk_by hb) hoo (fun s H C0 cl fp => c_tg tg (G.blk s H scope _ fp) ht rfl) hif hi1 (fun s H C0 cl fp => c_tg tg1 (G.blk s H scope _ fp) ht1 rfl) hif1 he (plain_fold hpl) (fun env => plain_fold hpl1)).imp fun σ H Q h => comp2_imp G hsl hsl1 hif0 hif10 h
theorem c_setLc2 (G : Good p c C g X W) {own0 own1 : List Nat} {tg tg1 : Tg} {it it1 : Y.It} {cc cc1 elt : E} {e t i t1 i1 : Expr} {ifs ifs1 : List Expr} {scope : Scope} {n : Nat} {y : Str} {py spos : Pos} (hy : C.N[n]? = some y) (hyl : X.env.scope.names.lookup y = some .local)
    (hsw : swapsWith (.ListComp e [⟨t, i, ifs, 0⟩, ⟨t1, i1, ifs1, 0⟩] scope pos) (some (.Name y py)) spos.line X.env = pure true) (hb : blkC C.N X.env.scope scope (ownNm C.N own0) = true) (ht : ckT C.N (fun x => scope.names.lookup x == some .cell) (relS scope X.env.scope) tg t = true)
    (ht1 : ckT C.N (fun x => scope.names.lookup x == some .cell) (relS scope X.env.scope) tg1 t1 = true) (hs : (tgSl tg).all (fun j => own0.contains j) = true) (hs1 : (tgSl tg1).all (fun j => own1.contains j) = true) (ho : own1.all (fun j => own0.contains j) = true) (hi : PI X t i (tI p W g it)) (hpl : plainX i = true) (hpl1 : plainX i1 = true)
    (hif : BlkAt X (fun X' => PTs X' ifs (tTs p g cc ifs)) scope) (hif0 : ifs = [] → isTrueC cc = true) (hi1 : BlkAt X (fun X' => PI X' t1 i1 (tI p W0 g it1)) scope) (hif1 : BlkAt X (fun X' => PTs X' ifs1 (tTs p g cc1 ifs1)) scope) (hif10 : ifs1 = [] → isTrueC cc1 = true)
    (he : BlkAt X (fun X' => PE X' e (tE p W0 g elt)) scope) : PS X (.Assign [.Name y py] (.ListComp e [⟨t, i, ifs, 0⟩, ⟨t1, i1, ifs1, 0⟩] scope pos) spos) (tAsg (tE p W g (.comp2 own0 tg it cc own1 tg1 it1 cc1 elt)) (gName n)) := by
  have hsl : ∀ i ∈ tgSl tg, i ∈ own0 := fun i h => by simpa using List.all_eq_true.mp hs i h
  have hsl1 : ∀ i ∈ tgSl tg1, i ∈ own1 := fun i h => by simpa using List.all_eq_true.mp hs1 i h
  have hoo : ∀ i ∈ own1, i ∈ (ownNm C.N own0).map (·.2) := fun i h => by rw [snds]; simpa using List.all_eq_true.mp ho i h
  have h := ps_setLc2 (i := n) G.calm (by rw [G.N]; exact G.nd) (by rw [G.N]; exact hy) hyl hsw hi (own := ownNm C.N own0) (by rw [G.N]; exact blkOk_by hb) hoo (fun s H C0 cl fp => c_tg tg (G.blk s H scope _ fp) ht rfl) hif hi1 (fun s H C0 cl fp => c_tg tg1 (G.blk s H scope _ fp) ht1 rfl) hif1 he (plain_fold hpl) (fun env => plain_fold hpl1)
  exact ⟨fun pins s σ H D I q => h.run pins s σ H D I (comp2_imp G hsl hsl1 hif0 hif10 q)⟩
theorem town_at {B : Bs} {own : Nat → Option Addr} {ρ : Rho} {k : Nat} {σ : L2.St} {H : Hp} (er : ER p.K B own ρ k σ H) (h : isTown ρ = true) : ∃ t, σ[1]? = some (some (.ref t)) ∧ H t = some (.lst ((TownS.tw k).map V.int)) ∧ B.T = some (t, TownS.town) := by
  unfold isTown at h
  split at h
  · rename_i e
    obtain ⟨v, e1, t, ⟨f, hf⟩, rfl⟩ := er.slot 1 _ e
    have ef := B.tw t f hf
    subst ef
    exact ⟨t, e1, er.town t _ hf, hf⟩
  · cases h
theorem c_twl (G : Good p c C g X W) {t : Str} {p1 p2 : Pos} (hv : glB X.env.scope "len" = true) (hb : C.bl.contains ("len" : Str) = true) (n1 : C.N[1]? = some t) (v1 : visB X.env.scope t = true) (m1 : nmOk t = true) : PE X (.Call (.Name "len" p1) [.Name t p2] [] pos) (tE p W g .twl) := by
  have hmg : X.mg "len" = none := by rw [G.mg]; exact G.tab.bl "len" (by simpa using hb)
  refine (pe_callB call_len (gl_of hv) hmg PySem.boot_len (pa_cons (pe_var (i := 1) (by rw [G.N]; exact n1) (vis_of v1) (nm_of m1).1 (nm_of m1).2.1) pa_nil (plain_star rfl)) (by decide) (by decide) (plain_star rfl) rfl).imp fun σ H Q ⟨B, own, ρ, k, er, f⟩ => ?_
  unfold ev at f
  cases ht : isTown ρ with
  | false => rw [ht] at f; exact f.elim
  | true =>
    rw [ht] at f
    obtain ⟨t, e1, e2, e3⟩ := town_at er ht
    rw [G.tab.tw] at f
    refine ⟨.ref t, e1, .ref t, (TownS.tw k).length, rfl, .inl ⟨_, SqL.of e2, by rw [List.length_map]⟩, f _ H er Stp.refl (.int _)⟩
theorem c_twm (G : Good p c C g X W) {t : Str} {p1 p2 q1 q2 : Pos} {a b : Nat} {j : Int} (n1 : C.N[1]? = some t) (v1 : visB X.env.scope t = true) (m1 : nmOk t = true) : PE X (.BinOp (.Subscript (.Name t p1) (.Constant (.int 0) a q1) p2) .Mod (.Constant (.int j) b q2) pos) (tE p W g (.twm j)) := by
  refine (pe_op op_mod (pe_ix ix_list (pe_var (i := 1) (by rw [G.N]; exact n1) (vis_of v1) (nm_of m1).1 (nm_of m1).2.1) pe_int (fun _ _ => rfl)) pe_int).imp fun σ H Q ⟨B, own, ρ, k, er, f⟩ => ?_
  unfold ev at f
  cases ht : isTown ρ with
  | false => rw [ht] at f; exact f.elim
  | true =>
    rw [ht] at f
    obtain ⟨t, e1, e2, e3⟩ := town_at er ht
    rw [G.tab.tw] at f
    rw [if_pos rfl] at f
    cases hm : TownS.tw k with
    | nil => rw [hm] at f; exact f.elim
    | cons m l =>
      rw [hm] at f e2
      dsimp only at f
      split at f
      · rename_i hj
        rw [G.K]
        exact ⟨.ref t, e1, t, _, 0, .int m, rfl, rfl, SqL.of e2, atI_nat (j := 0) rfl, m, j, rfl, rfl, of_decide_eq_true hj, f _ H er Stp.refl (.int _)⟩
      · exact f.elim
/-! ### dict displays -/
def tprs (p : Par) (W : WX) (g : G) : Es → List (TE × TE)
  | .cons k (.cons v es) => (tE p W g k, tE p W g v) :: tprs p W g es
  | _ => []
def PRel (K : PySem.W.Frag) (G : Hp) : List (V × V) → List D → Prop
  | [], [] => True
  | q :: ps, a :: b :: ds => Rp K G q.1 a ∧ Rp K G q.2 b ∧ PRel K G ps ds
  | _, _ => False
theorem PRel.mono {K : PySem.W.Frag} {G G' : Hp} (h : ∀ a o, G a = some o → G' a = some o) : ∀ {ps : List (V × V)} {ds : List D}, PRel K G ps ds → PRel K G' ps ds
  | [], [], _ => trivial
  | q :: ps, a :: b :: ds, ⟨h1, h2, h3⟩ => ⟨h1.mono h, h2.mono h, PRel.mono h h3⟩
  | [], _ :: _, h => h.elim
  | _ :: _, [], h => h.elim
  | _ :: _, [_], h => h.elim
theorem pairs_of : ∀ {es : Es} {B : Bs} {own : Nat → Option Addr} {ρ : Rho} {k : Nat} {σ : L2.St} {H : Hp} {Q : List (V × V) → Hp → Prop} {n : Nat}, es.len = 2 * n → anyTr ρ es = false → ER p.K B own ρ k σ H →
    FinG (fun r => ∀ ps H', ER p.K B own ρ r.2 σ H' → Stp B H H' → PRel p.K (Hd H' (hid B own)) ps r.1 → Q ps H') (XP p W B own ρ σ H) (evs g es ρ k) → tPairs (tprs p W g es) σ H Q
  | .nil, B, own, ρ, k, σ, H, Q, n, hn, ht, er, f => by
    unfold evs at f
    exact f [] H er Stp.refl trivial
  | .cons e .nil, B, own, ρ, k, σ, H, Q, n, hn, ht, er, f => by
    simp only [Es.len] at hn
    omega
  | .cons e (.cons v es), B, own, ρ, k, σ, H, Q, n, hn, ht, er, f => by
    simp only [anyTr, Bool.or_eq_false_iff] at ht
    obtain ⟨t1, t2, t3⟩ := ht
    unfold evs at f
    refine tE.bind (okβ := fun H (r : List D × Nat) => ∀ ps H', ER p.K B own ρ r.2 σ H' → Stp B H H' → PRel p.K (Hd H' (hid B own)) ps r.1 → Q ps H') er f (fun H1 k1 r s _ h ps H' e' s' q => h ps H' e' (s.trans s') q) fun d1 k1 x H1 er1 s1 q1 f => ?_
    unfold evs at f
    have f : FinG (fun r => ∀ ps H', ER p.K B own ρ r.2 σ H' → Stp B H1 H' → PRel p.K (Hd H' (hid B own)) ps r.1 → Q ps H') (XP p W B own ρ σ H1) (ev g v ρ k1 >>= fun a => evs g es ρ a.2 >>= fun b => R.ok (d1 :: a.1 :: b.1, b.2)) := by
      dsimp only at f
      cases he : ev g v ρ k1 with
      | no => rw [he] at f; exact f
      | ex _ _ => rw [he] at f; exact f
      | ok a =>
        rw [he] at f
        cases he2 : evs g es ρ a.2 with
        | no => simp only [bind_ok, he2] at f ⊢; exact f
        | ex _ _ => simp only [bind_ok, he2] at f ⊢; exact f
        | ok b => simp only [bind_ok, he2] at f ⊢; exact f
    refine tE.bind (okβ := fun H (r : List D × Nat) => ∀ ps H', ER p.K B own ρ r.2 σ H' → Stp B H H' → PRel p.K (Hd H' (hid B own)) ps r.1 → Q ps H') er1 f (fun H1 k1 r s _ h ps H' e' s' q => h ps H' e' (s.trans s') q) fun d2 k2 y H2 er2 s2 q2 f => ?_
    refine pairs_of (n := n - 1) (by simp only [Es.len] at hn; omega) t3 er2 ((FinG.bind f).imp (fun b hb ps H' er' s' q => ?_) fun _ _ z => z)
    exact hb.2 ((x, y) :: ps) H' er' s' ⟨((q1.later er1 s2).later er2 s').plain (of_decide_eq_false t1), (q2.later er2 s').plain (of_decide_eq_false t2), q⟩
theorem kindD_k {ks : List (Key × V)} {ds : List D} : kindD ((ks.map fun k => kD k.1).zip ds) = false := by
  cases ks with
  | nil => rfl
  | cons k ks =>
    cases ds with
    | nil => rfl
    | cons d ds =>
      rw [List.map_cons, List.zip_cons_cons]
      obtain ⟨q, _⟩ := k
      cases q <;> rfl
theorem merge_rel {K : PySem.W.Frag} {G : Hp} : ∀ {ps : List (V × V)} {es : List D} {kvs : List (D × D)} {ks : List (Key × V)} {ds : List D}, PRel K G ps es → pairs2 es = some kvs → (kvs.all fun kv => keyK kv.1) = true → Rps K G (ks.map (·.2)) ds → (ks.map (·.1)).Nodup → (∀ k ∈ ks, kOk k.1) →
    ∃ (more : List (Key × V)) (ds' : List D), ps = more.map (fun kv => (kV kv.1, kv.2)) ∧ more.length = kvs.length ∧ Rps K G ((mergeK ks more).map (·.2)) ds' ∧ ((mergeK ks more).map (·.1)).Nodup ∧ (∀ k ∈ mergeK ks more, kOk k.1) ∧
      kvs.foldl (fun l kv => dput l kv.1 kv.2) ((ks.map fun k => kD k.1).zip ds) = ((mergeK ks more).map fun k => kD k.1).zip ds'
  | [], [], kvs, ks, ds, _, hp, hk, h1, h2, h3 => by
    cases hp
    exact ⟨[], ds, rfl, rfl, h1, h2, h3, rfl⟩
  | q :: ps, a :: b :: es, kvs, ks, ds, ⟨r1, r2, r3⟩, hp, hk, h1, h2, h3 => by
    cases hr : pairs2 es with
    | none => simp [pairs2, hr] at hp
    | some kvs' =>
      have e : kvs = (a, b) :: kvs' := by simpa [pairs2, hr] using hp.symm
      subst e
      rw [List.all_cons, Bool.and_eq_true] at hk
      obtain ⟨key, e1, e2, ok⟩ := keyK_inv r1 hk.1
      have e2 : a = kD key := e2
      subst e2
      obtain ⟨ds1, g1, g2, g3, g4⟩ := dput_put (f := kD) (fun a b => kD_inj) key r2 h1 h2
      obtain ⟨more, ds', f1, f2, f3, f4, f5, f6⟩ := merge_rel (ks := putK ks key q.2) (ds := ds1) r3 hr hk.2 g1 g3 fun k hk => by
        rcases g4 k hk with z | ⟨k', z1, z2⟩
        · rw [z]; exact ok
        · rw [← z2]; exact h3 k' z1
      refine ⟨(key, q.2) :: more, ds', ?_, by rw [List.length_cons, List.length_cons, f2], f3, f4, f5, ?_⟩
      · rw [List.map_cons, f1, ← e1]
      · rw [List.foldl_cons, g2]
        exact f6
  | [], _ :: _, _, _, _, h, _, _, _, _, _ => h.elim
  | _ :: _, [], _, _, _, h, _, _, _, _, _ => h.elim
  | _ :: _, [_], _, _, _, h, _, _, _, _, _ => h.elim
theorem pairs2_len : ∀ {es : List D} {kvs : List (D × D)}, pairs2 es = some kvs → es.length = 2 * kvs.length
  | [], kvs, h => by cases h; rfl
  | [_], kvs, h => by cases h
  | a :: b :: es, kvs, h => by
    cases hr : pairs2 es with
    | none => simp [pairs2, hr] at h
    | some kvs' =>
      have e : kvs = (a, b) :: kvs' := by simpa [pairs2, hr] using h.symm
      subst e
      rw [List.length_cons, List.length_cons, List.length_cons, pairs2_len hr]
      omega
theorem c_dct (G : Good p c C g X W) {es : Es} {keys : List (Option Expr)} {vals : List Expr} (hp : PPs X pos keys vals (tprs p W g es)) (hall : keys.all (·.isSome) = true) (hl : keys.length = vals.length) (h0 : keys ≠ []) (h15 : keys.length ≤ 15) (hn : es.len = 2 * keys.length) : PE X (.Dict keys vals pos) (tE p W g (.dct es)) :=
  (pe_disp hp hall hl h0 h15).imp fun σ H Q ⟨B, own, ρ, k, er, f⟩ => by
    unfold ev at f
    cases ht : anyTr ρ es with
    | true => rw [ht] at f; exact f.elim
    | false =>
      rw [ht] at f
      intro D0 hD
      have er1 := er.and (o := .dK []) hD
      have np0 : ¬ hid B own D0 := new_np er hD
      have nT : ¬ B.isT D0 := fun z => np0 (isT_hid z)
      have nH0 : B.H0 D0 = none := by
        cases e : B.H0 D0 with
        | none => rfl
        | some o => rw [er.base D0 o e nT] at hD; cases hD
      have s0 : Stp B H (upd H D0 (.dK [])) := Stp.same (same_new hD)
      refine pairs_of hn ht er1 ((FinG.bind f).imp (fun r hr ps H2 er2 s2 q2 => ?_) fun x k hx cls dx H' er' s' q => hx cls dx H' er'.unand (s0.trans s') q)
      obtain ⟨kvs, hk, f⟩ := FinG.of hr.2
      split at f
      · rename_i hkk
        obtain ⟨more, ds', f1, f2, f3, f4, f5, f6⟩ := merge_rel (ks := []) (ds := []) q2 hk hkk .nil .nil (fun k h => nomatch h)
        have e2 : H2 D0 = some (.dK []) := s2 D0 _ upd_same nT
        have hlen : more.length = keys.length := by
          have h1 := evs_len hr.1
          have h2 := pairs2_len hk
          rw [f2]
          omega
        refine ⟨e2, more, f1, by omega, ?_⟩
        have er3 : ER p.K (B.and D0) own ρ r.2 σ (upd H2 D0 (.dK (mergeK [] more))) := er2.write0 (.inr rfl) nT nH0
        have hm : ∀ a u, Hd H2 (hid (B.and D0) own) a = some u → Hd (upd H2 D0 (.dK (mergeK [] more))) (fun a => hid B own a ∨ a = D0) a = some u := fun a u e => by
          have hne : a ≠ D0 := fun z => Hd.np e (z ▸ .inl (.inr rfl))
          exact Hd.at (fun z => Hd.np e (and_hid.mpr z)) (by rw [upd_ne hne]; exact Hd.le a u e)
        refine f _ _ er3.unand (fun b u e n => ?_) ⟨D0, rfl, hD, np0, .inr ⟨_, rfl, ?_⟩⟩
        · have hne : b ≠ D0 := fun z => by rw [z, hD] at e; cases e
          rw [upd_ne hne]
          exact s2 b u (s0 b u e n) n
        · have e6 : kvs.foldl (fun l kv => dput l kv.1 kv.2) [] = ((mergeK [] more).map fun k => kD k.1).zip ds' := f6
          rw [e6, kindD_k]
          have hz : (mergeK [] more).length ≤ sizeLine := by
            have h1 := length_mergeK more []
            rw [List.length_nil] at h1
            rw [sizeLine_eq]
            omega
          exact .inl ⟨rfl, _, ds', upd_same, hz, f5, f4, f3.mono hm, rfl⟩
      · exact f.elim
end
end Y

namespace Y
open PySem PySem.W PySem.Spec PyProof.Rows L2
/-! ### sets whose members are ints and texts -/
def keyE (e : Int × Value) : Key := match e.2 with
  | .int i _ => .inl i
  | .str x _ => .inr x
  | _ => .inl 0
def MemE (P : Program) (w : World) (e : Int × Value) : Prop := ∃ k : Key, (mixKind P w).is k e.2 = true ∧ e.1 = (mixKind P w).hash k
/-- the set object at a, its members L (in some order) -/
def SetM (P : Program) (w : World) (h : Heap) (a : Addr) (L : List Key) : Prop :=
  ∃ (o : Obj) (es : Array (Int × Value)) (ep : Nat) (t : SetTable), (h.get? a = some o ∧ o.ExactSet ∧ o.data = .set es ep t) ∧ (∀ e ∈ es.toList, MemE P w e) ∧ (es.toList.map keyE).Perm L ∧ L.Nodup ∧ L.length < scanBound ∧ t.fits es.size = true ∧ Ris t.place.toList ∧ (w.params.followText "set-order" = true ∨ t.led = true)
section
variable {P : Program} {w : World} {h h' : Heap} {a : Addr} {L : List Key}
theorem key_is {k : Key} {e : Int × Value} (q : (mixKind P w).is k e.2 = true) : keyE e = k := by
  rcases keyIs_shape q with ⟨i, t, rfl, e2⟩ | ⟨x, t, rfl, e2⟩
  · unfold keyE; rw [e2]
  · unfold keyE; rw [e2]
theorem key_scan {k : Key} {v : Value} (q : (mixKind P w).is k v = true) : v.scannable = true := by
  rcases keyIs_shape q with ⟨i, t, rfl, rfl⟩ | ⟨x, t, rfl, rfl⟩ <;> rfl
theorem elems_of {l : List (Int × Value)} (q : ∀ e ∈ l, MemE P w e) : ElemsOf (mixKind P w) l := fun e he => by
  obtain ⟨k, h1, h2⟩ := q e he
  exact ⟨⟨k, h1, h2⟩, key_scan h1⟩
theorem SetM.keeps (R : SetM P w h a L) (k : ∀ o, h.get? a = some o → h'.get? a = some o) : SetM P w h' a L := by
  obtain ⟨o, es, ep, t, ⟨ho, hx⟩, r⟩ := R
  exact ⟨o, es, ep, t, ⟨k o ho, hx⟩, r⟩
theorem SetM.typ {s : Shared} (R : SetM P w s.heap a L) : s.TypeIs (.ref a) "set" := by
  obtain ⟨o, es, ep, t, ⟨ho, hx, _⟩, _⟩ := R
  exact ⟨o, ho, hx.1⟩
open Classical in
noncomputable def addM (L : List Key) (k : Key) : List Key := if k ∈ L then L else L ++ [k]
end
section
variable {P : Program} {w : World} {A : Around} {E : Value → Shared → Prop} {s : Shared} {a : Addr} {L : List Key}
/-- the table is laid anew where it is too full -/
theorem setM_tail {gave : Bool → Sem Unit} (hg : ∀ (b : Bool) (sx : Shared) (Q' : Unit → Shared → Prop), Q' () sx → wpAny (model P w) A (gave b) Q' E sx) {o : Obj} {es : Array (Int × Value)} {ep : Nat} {t : SetTable} (ob : s.heap.get? a = some o ∧ o.ExactSet ∧ o.data = .set es ep t)
    {fs : Array (Int × Value)} {tt : SetTable} (m1 : ∀ e ∈ fs.toList, MemE P w e) (p1 : (fs.toList.map keyE).Perm L) (nd : L.Nodup) (hb : L.length < scanBound) (hf : tt.fits fs.size = true) (hr : Ris tt.place.toList) (hl : w.params.followText "set-order" = true ∨ tt.led = true) {wd : Bool} {R : Option Bool → Shared → Prop}
    (fin : ∀ h', Heap.SameBut a s.heap h' → SetM P w h' a L → R (some true) { s with heap := h' }) :
    wpAny (model P w) A (do
      storeSet a fs tt
      if (!wd && tt.tooFull) = true then do
          gave (relayAll tt fs (SetTable.grown fs.size)).2.2
          storeSet a (relayAll tt fs (SetTable.grown fs.size)).1 (relayAll tt fs (SetTable.grown fs.size)).2.1
          pure (some true)
        else pure (some true)) R E s := by
  have sz : fs.size = L.length := by rw [← p1.length_eq, List.length_map, Array.length_toList]
  refine wpAny_bind (wpAny_storeSet_of ob.1 ob.2.2 ?_ (fits_of_scanBound (by rw [sz]; exact hb)))
  have at1 := store_at (es' := fs) (t' := tt) ob.1 ob.2.2
  have sb := Heap.SameBut.update s.heap a (Obj.putSet fs tt)
  split
  · have q1 := relayAll_perm tt fs (SetTable.grown fs.size)
    have q2 := relayAll_fits tt fs (SetTable.grown fs.size)
    have q3 := relayAll_ris tt fs (SetTable.grown fs.size)
    have q4 := relayAll_led tt fs (SetTable.grown fs.size)
    generalize relayAll tt fs (SetTable.grown fs.size) = Z at q1 q2 q3 q4 ⊢
    obtain ⟨gs, t3, gv⟩ := Z
    dsimp only at q1 q2 q3 q4 ⊢
    have sz2 : gs.size = L.length := by rw [← Array.length_toList, q1.length_eq, Array.length_toList, sz]
    refine wpAny_bind (hg _ _ _ (wpAny_bind (wpAny_storeSet_of at1 rfl ?_ (fits_of_scanBound (by rw [sz2]; exact hb)))))
    have at2 := store_at (es' := gs) (t' := t3) at1 rfl
    exact wpAny_pure (fin _ (sb.trans (Heap.SameBut.update _ a _)) ⟨_, gs, _, t3, ⟨at2, ob.2.1, rfl⟩, fun e he => m1 e (q1.mem_iff.mp he), (q1.map keyE).trans p1, nd, hb, q2, q3, hl.imp id fun z => by rw [q4]; exact z⟩)
  · exact wpAny_pure (fin _ sb ⟨_, fs, _, tt, ⟨at1, ob.2.1, rfl⟩, m1, p1, nd, hb, hf, hr, hl⟩)
theorem setM_put {k : Key} {x : Value} {Q : Bool → Shared → Prop} (R : SetM P w s.heap a L) (room : L.length + 1 < scanBound) (hk : (mixKind P w).is k x = true)
    (fin : ∀ b h', Heap.SameBut a s.heap h' → SetM P w h' a (addM L k) → Q b { s with heap := h' }) : wpAny (model P w) A (setAddHashed a x ((mixKind P w).hash k)) Q E s := by
  obtain ⟨o, es, ep, t, ob, me, pe, nd, hb, hf, hr, hl⟩ := R
  have hsc := key_scan hk
  have hel := elems_of me
  have sz : es.size = L.length := by rw [← pe.length_eq, List.length_map, Array.length_toList]
  have hb0 : es.size < scanBound := by rw [sz]; exact hb
  unfold setAddHashed setAddHashedIn
  refine wpAny_holding (wpAny_bind (wpAny_setState_of ob.1 ob.2.2 hf ?_))
  dsimp only
  rw [byScan_of hsc hb0 hel]
  simp only [↓reduceIte]
  unfold setAddByScan
  refine wpAny_bind (wpAny_bind (wpAny_rule (wpAny_bind (wpAny_setScan_of hk ob.1 ob.2.2 hf hel ?_))))
  cases hfi : List.findIdx? (fun e => (mixKind P w).is k e.2) es.toList with
  | some j =>
    dsimp only
    obtain ⟨hj, pj, _⟩ := List.findIdx?_eq_some_iff_getElem.mp hfi
    have hm : k ∈ L := pe.mem_iff.mp (List.mem_map.mpr ⟨es.toList[j], List.getElem_mem hj, key_is pj⟩)
    have hadd : addM L k = L := by unfold addM; rw [if_pos hm]
    refine wpAny_pure (wpAny_pure (fin _ s.heap (Heap.SameBut.refl a s.heap) ?_))
    rw [hadd]
    exact ⟨o, es, ep, t, ob, me, pe, nd, hb, hf, hr, hl⟩
  | none =>
    dsimp only
    have hm : k ∉ L := fun z => by
      obtain ⟨e, he, q⟩ := List.mem_map.mp (pe.mem_iff.mpr z)
      obtain ⟨k2, h1, h2⟩ := me e he
      have e3 := (key_is h1).symm.trans q
      subst e3
      have c := List.findIdx?_eq_none_iff.mp hfi e he
      rw [h1] at c
      cases c
    have hadd : addM L k = L ++ [k] := by unfold addM; rw [if_neg hm]
    have gw : ∀ (b : Bool) {sx : Shared} {Q' : Unit → Shared → Prop}, Q' () sx → wpAny (model P w) A (match b with | true => rule "set.scan.the-table-gave-way" | false => pure ()) Q' E sx := fun b sx Q' q => by
      cases b with
      | true => exact wpAny_rule q
      | false => exact wpAny_pure q
    have q1 := layNew_perm t es ((mixKind P w).hash k) x
    have q2 := layNew_fits t es ((mixKind P w).hash k) x
    have q3 := layNew_ris t es ((mixKind P w).hash k) x hr
    have q4 := layNew_led t es ((mixKind P w).hash k) x
    generalize layNew t es ((mixKind P w).hash k) x = Z at q1 q2 q3 q4 ⊢
    obtain ⟨fs, t1, wd, gv⟩ := Z
    dsimp only at q1 q2 q3 q4 ⊢
    rw [Array.toList_push] at q1
    have pk : (fs.toList.map keyE).Perm (addM L k) := by
      rw [hadd]
      refine (q1.map keyE).trans ?_
      rw [List.map_append]
      exact pe.append (by rw [List.map_cons, List.map_nil, key_is (P := P) (w := w) (e := ((mixKind P w).hash k, x)) hk])
    have me1 : ∀ e ∈ fs.toList, MemE P w e := fun e he => by
      rcases List.mem_append.mp (q1.mem_iff.mp he) with z | z
      · exact me e z
      · rw [List.mem_singleton.mp z]
        exact ⟨k, hk, rfl⟩
    have nd1 : (addM L k).Nodup := by
      rw [hadd, List.nodup_append]
      refine ⟨nd, by simp, fun y hy z hz e => ?_⟩
      rw [List.mem_singleton.mp hz] at e
      exact hm (e ▸ hy)
    have hb1 : (addM L k).length < scanBound := by rw [hadd, List.length_append]; exact room
    have led1 : w.params.followText "set-order" = true ∨ t1.led = true := hl.imp id fun z => by rw [q4]; exact z
    refine wpAny_bind (gw _ ?_)
    split
    · refine wpAny_bind ?_
      rw [hashByValue_scannable 8 hsc]
      refine wpAny_pure ?_
      refine setM_tail (L := addM L k) ?_ ob me1 pk nd1 hb1 ?_ ?_ ?_ fun h' sb r => wpAny_pure (fin _ h' sb r)
      · intro b sx Q' q
        cases b with
        | true => exact wpAny_rule q
        | false => exact wpAny_pure q
      · split
        · exact q2
        · exact SetTable.fits_plain_off q2
      · split <;> exact q3
      · split <;> exact led1
    · refine wpAny_bind (wpAny_pure ?_)
      simp only [↓reduceIte]
      refine setM_tail (L := addM L k) ?_ ob me1 pk nd1 hb1 q2 q3 led1 fun h' sb r => wpAny_pure (fin _ h' sb r)
      intro b sx Q' q
      cases b with
      | true => exact wpAny_rule q
      | false => exact wpAny_pure q
/-- a.add(x) -/
theorem setM_add {k : Key} {x : Value} {Q : Value → Shared → Prop} (R : SetM P w s.heap a L) (room : L.length + 1 < scanBound) (hk : (mixKind P w).is k x = true)
    (fin : ∀ h', Heap.SameBut a s.heap h' → SetM P w h' a (addM L k) → Q .none { s with heap := h', toks := s.toks + 1 }) : wpAny (model P w) A (call (.builtin "set.add") [.ref a, x]) Q E s := by
  refine wpAny_call_entry F.slot_set_add R.typ F.entry_set_add ?_ (F.args_set_add_2 _ _)
  unfold Builtin.«set.add» Builtin.Frozenset.oneOther
  simp only [List.isEmpty_nil, bind_assoc]
  unfold Builtin.Frozenset.addrOf setAdd
  refine wpAny_bind (wpAny_pure ?_)
  try dsimp only
  refine wpAny_bind (wpAny_pure ?_)
  try dsimp only
  refine wpAny_bind (wpAny_holding (wpAny_bind ((mixKind P w).pyHash hk ?_)))
  refine setM_put (s := { s with toks := s.toks + 1 }) R room hk fun b h' sb r => ?_
  show wpAny _ _ (ret Value.none) _ _ _
  exact wpAny_pure ⟨_, rfl, fin h' sb r⟩
theorem setM_fresh {h : Heap} : SetM P w (h.push { cls := .type "set", dict := none, data := .set #[] 0 (.fresh 0 0 (!w.params.followText "set-order")) }) h.objs.size [] := by
  refine ⟨_, #[], 0, _, ⟨Heap.get?_push_size _ rfl, ⟨rfl, rfl, rfl⟩, rfl⟩, fun e he => (by cases he), .nil, .nil, by decide, rfl, .nil, ?_⟩
  cases e : w.params.followText "set-order"
  · exact .inr (by simp [SetTable.fresh, e])
  · exact .inl rfl
end
def SetMO (P : Program) (w : World) (a : Addr) (L : List Key) : HO := .ext fun h => SetM P w h a L
theorem setMO_new {P : Program} {w : World} {H : Hp} {h : Heap} {a : Addr} {L : List Key} (R : SetM P w h a L) : ObjOk P w H h a (SetMO P w a L) := by
  have ⟨o, _, _, _, ⟨ho, _⟩, _⟩ := R
  exact ⟨R, ⟨o, ho⟩, fun g1 g2 q k => SetM.keeps q k⟩
theorem setMO_get {X : Cx} {pins : List (Addr × Obj)} {σ : L2.St} {H : Hp} {s : Shared} {a : Addr} {L : List Key} (I : Inv X pins σ H s) (ha : H a = some (SetMO X.prog X.w a L)) : SetM X.prog X.w s.heap a L := (I.hok a _ ha).1
theorem addM_ok {X : Cx} {pins : List (Addr × Obj)} {σ : L2.St} {H : Hp} {s : Shared} {E : Value → Shared → Prop} {D : Addr} {L : List Key} {y : V} {u : Value} {k : Key} {Q : Value → Shared → Prop} (I : Inv X pins σ H s) (hD : H D = some (SetMO X.prog X.w D L)) (room : L.length + 1 < scanBound) (r : RelV y u) (hk : y = kV k)
    (fin : ∀ s', Inv X pins σ (upd H D (SetMO X.prog X.w D (addM L k))) s' → Q .none s') : wpAny (model X.prog X.w) X.A (call (.builtin "set.add") [.ref D, u]) Q E s := by
  subst hk
  refine setM_add (setMO_get I hD) room (kV_is r) fun h' sb new => ?_
  have he : ∃ v, h'.get? D = some v := by
    have ⟨o, _, _, _, ⟨ho, _⟩, _⟩ := new
    exact ⟨o, ho⟩
  exact fin _ (I.write (e := D) (t' := s.toks + 1) (by rw [hD]; trivial) (.inl rfl) (fun b v hb hv => (sb.2 b hb).trans hv) he (setMO_new new))
variable [TownS]
theorem strs_of_keys {P : Program} {w : World} : ∀ {l : List (Int × Value)} {xs : List Str}, (∀ e ∈ l, MemE P w e) → l.map keyE = xs.map Sum.inr → StrsAre (l.map (·.2)) xs
  | [], [], _, _ => .nil
  | e :: l, x :: xs, me, h => by
    rw [List.map_cons, List.map_cons, List.cons.injEq] at h
    obtain ⟨k, h1, _⟩ := me e (List.mem_cons_self ..)
    have e1 := (key_is h1).symm.trans h.1
    subst e1
    have h1 : keyIs (Sum.inr x) e.2 = true := h1
    rcases keyIs_shape h1 with ⟨i, t, e2, _⟩ | ⟨y, t, e2, e3⟩
    · cases e2
    · cases e2
      rw [List.map_cons, e3]
      exact .cons x t (strs_of_keys (fun e he => me e (List.mem_cons_of_mem _ he)) h.2)
  | [], _ :: _, _, h => by simp at h
  | _ :: _, [], _, h => by simp at h
theorem perm_strs : ∀ {us ws : List Value} {xs : List Str}, us.Perm ws → StrsAre ws xs → ∃ ys, StrsAre us ys ∧ ys.Perm xs := by
  intro us ws xs p
  induction p generalizing xs with
  | nil => intro h; exact ⟨xs, h, .refl _⟩
  | cons x p ih =>
    intro h
    cases h with
    | cons y t h =>
      obtain ⟨ys, h1, h2⟩ := ih h
      exact ⟨y :: ys, .cons y t h1, h2.cons y⟩
  | swap x y l =>
    intro h
    cases h with
    | cons a t h =>
      cases h with
      | cons b u h => exact ⟨_, .cons b u (.cons a t h), .swap ..⟩
  | trans p1 p2 ih1 ih2 =>
    intro h
    obtain ⟨ys, h1, h2⟩ := ih2 h
    obtain ⟨zs, h3, h4⟩ := ih1 h1
    exact ⟨zs, h3, h4.trans h2⟩
theorem strs_len : ∀ {us : List Value} {xs : List Str}, StrsAre us xs → us.length = xs.length
  | _, _, .nil => rfl
  | _, _, .cons _ _ h => by rw [List.length_cons, List.length_cons, strs_len h]
theorem keys_perm : ∀ {ks : List Key} {xs : List Str}, ks.Perm (xs.map Sum.inr) → ∃ ys : List Str, ks = ys.map Sum.inr ∧ ys.Perm xs := by
  intro ks xs h
  have hall : ∀ k ∈ ks, ∃ x : Str, k = Sum.inr x := fun k hk => by
    obtain ⟨x, _, e⟩ := List.mem_map.mp (h.mem_iff.mp hk)
    exact ⟨x, e.symm⟩
  have ex : ∀ l : List Key, (∀ k ∈ l, ∃ x : Str, k = Sum.inr x) → ∃ ys : List Str, l = ys.map Sum.inr := by
    intro l
    induction l with
    | nil => intro _; exact ⟨[], rfl⟩
    | cons k l ih =>
      intro hl
      obtain ⟨x, e⟩ := hl k (List.mem_cons_self ..)
      obtain ⟨ys, e2⟩ := ih fun k hk => hl k (List.mem_cons_of_mem _ hk)
      exact ⟨x :: ys, by rw [e, e2]; rfl⟩
  obtain ⟨ys, e⟩ := ex ks hall
  refine ⟨ys, e, ?_⟩
  subst e
  have q := h.filterMap (fun k : Key => match k with | .inr x => some x | .inl _ => none)
  rw [List.filterMap_map, List.filterMap_map] at q
  have id1 : ∀ l : List Str, l.filterMap ((fun k : Key => match k with | .inr x => some x | .inl _ => none) ∘ Sum.inr) = l := by
    intro l
    induction l with
    | nil => rfl
    | cons x l ih =>
      rw [List.filterMap_cons]
      show x :: _ = _
      rw [ih]
  rw [id1, id1] at q
  exact q
/-- sorted(a set of texts) -/
theorem sorted_setM {P : Program} {w : World} {A : Around} {E : Value → Shared → Prop} {s : Shared} {a : Addr} {xs : List Str} {Q : Value → Shared → Prop} (R : SetM P w s.heap a (xs.map .inr)) (hh : A.handled = none) (few : xs.length < 64)
    (fin : ∀ s' q (out : Array Value) (c : Nat), (∀ b o, s.heap.get? b = some o → s'.heap.get? b = some o) → s'.gens = s.gens → s'.os = s.os → s.heap.objs.size ≤ q → s'.heap.get? q = some (seqObj "list" out c) → StrsAre out.toList (sortStr xs) → Q (.ref q) s') :
    wpAny (model P w) A (call (.builtin "sorted") [.ref a]) Q E s := by
  obtain ⟨o, es, ep, t, ob, me, pe, nd, hb, hf, hr, hl⟩ := R
  have sz : es.size = xs.length := by
    have := pe.length_eq
    rw [List.length_map, List.length_map, Array.length_toList] at this
    exact this
  refine Calls.call_function_entry kind_sorted plain_sorted entry_sorted (args_sorted1 _) ?_
  unfold Builtin.«sorted»
  refine wpAny_bind (m := checkCount "sorted" 1 1 _) (wpAny_pure ?_)
  refine wpAny_bind (collect_set (A := A.in1) hh ⟨o, ob.1, ob.2.1.1, ob.2.2⟩ hf (by rw [sz]; unfold scanBound; omega) hr hl fun s1 us k1 hz g1 o1 pm => ?_)
  obtain ⟨ks, ek, pk⟩ := keys_perm pe
  obtain ⟨ys, hS, py⟩ := perm_strs pm (strs_of_keys me ek)
  have hul : us.length < 64 := by rw [strs_len hS, py.length_eq, pk.length_eq]; exact few
  refine wpAny_bind (wpAny_newList ?_ (by rw [sizeLine_eq]; omega))
  have hoL : (s1.heap.push (seqObj "list" us.toArray 0)).get? s1.heap.objs.size = some (seqObj "list" us.toArray 0) := Heap.get?_push_size _ rfl
  refine wpAny_bind (wpAny_holding (wpAny_call_entry slot_list_sort ⟨_, hoL, rfl⟩ entry_list_sort (list_sort_treeK strKind_oneLt hoL hS.keysOf (fun v1 v2 rest e => keyKind_strs (by rw [← e]; exact hS)) hul fun st hp hs => ⟨_, rfl, ?_⟩) (args_list_sort _)))
  obtain ⟨zs, z1, z2, z3⟩ := sorted_out_str hS hp hs
  have ez : zs = sortStr xs := sorted_unique (z2.trans (py.trans pk)) z3
  subst ez
  obtain ⟨c, hc⟩ := sortedHeap_at (vs := us) (out := (arrOf st).map (·.2)) hoL
  refine wpAny_pure ⟨_, rfl, fin _ s1.heap.objs.size _ c (fun b u e => ?_) g1 o1 hz hc z1⟩
  have q := k1 b u e
  have hlt := Heap.lt_size q
  show (sortedHeap (s1.heap.push (seqObj "list" us.toArray 0)) s1.heap.objs.size us _).get? b = some u
  rw [sortedHeap_old (Nat.ne_of_lt hlt) (by rw [size_push']; exact Nat.lt_succ_of_lt hlt)]
  exact Heap.get?_push_of_some _ q
def rSortedM (P : Program) (w : World) : List V → Hp → VK → Prop := fun vs H Q => ∃ (a : Addr) (xs : List Str), vs = [V.ref a] ∧ H a = some (SetMO P w a (xs.map .inr)) ∧ xs.length < 64 ∧ ∀ q, H q = none → Q (.ref q) (upd H q (.lst ((sortStr xs).map V.str)))
theorem cr_sortedM {X : Cx} (hc : X.calm = true) : CallR X (.builtin "sorted") (rSortedM X.prog X.w) := by
  intro pins s σ H vs us Q I r h
  obtain ⟨a, xs, rfl, ha, few, q⟩ := h
  rw [Vals.ref1 r]
  refine sorted_setM (setMO_get I ha) (I.ok.hd hc) few fun s' p out c k g o hp hg hS => ?_
  have hlen : ((sortStr xs).map V.str).length ≤ sizeLine := by rw [List.length_map, sortStr_perm.length_eq, sizeLine_eq]; omega
  have hn : H p = none := I.hok.fresh hp
  have J : Inv X pins σ (upd H p (.lst ((sortStr xs).map V.str))) { s with heap := s'.heap, gens := s'.gens, drawn := s'.drawn, toks := s'.toks } :=
    I.call (ch := []) (Un.laid k hp hn) (I.hok.laid k hp ⟨hlen, out.toList, c, vals_of_strs hS, hg⟩) (by rw [g]; exact I.bare) (fun _ z => nomatch z)
  have e : s' = { s with heap := s'.heap, gens := s'.gens, drawn := s'.drawn, toks := s'.toks } := by
    cases s'
    cases s
    cases o
    rfl
  rw [e]
  exact ⟨.ref p, _, J, rfl, q p hn⟩
end Y

namespace Y
open PySem PySem.W PySem.Spec PyProof.Rows L2
/-! ### {e for .. in .. for .. in ..} -/
/-- a clause's tests, as a tree -/
abbrev testsT (ifs : List Expr) (env : Env) : Sem Bool := forIn ifs true fun c r => if r = true then do let ok ← isTrue c env (eval c env); pure (ForInStep.yield ok) else pure (ForInStep.yield r)
section
variable {prog : Program} {w : World} {A : Around} {R : Result → Shared → Prop} {c : Expr} {d : Nat} {t : Expr} {ifs : List Expr} {ip : Pos} {it acc : Value} {env : Env} {cont : Sem PySem.Fin}
abbrev Noted (prog : Program) (w : World) (A : Around) (env : Env) (R : Result → Shared → Prop) : Value → Shared → Prop := notedBy (model prog w) A env fun e s' => R (.error e) s'
/-- a comprehension's loop, whatever its turn does behind the tests -/
theorem loop_gen (hden : ∀ B, (B = A.under (.compLoop c d it acc env)) → B = A ∧ (model prog w).den (.compLoop c d it acc env) = (compTurn c d it acc env).onRaise (fun x => do noteFrame x env; theTreesLotGoes x)) (ht : compTurn c d it acc env = (do
      standAt ip
      match ← pyNext it with
      | none => pure (.done .next)
      | some v =>
        letOwnedTupleGo t it v
        assign t env v
        let ok ← testsT ifs env
        if ok = true then cont else again (.compLoop c d it acc env)))
    (Iv : Nat → Shared → Prop) (turn : ∀ m sx, Iv m sx → wpAny (model prog w) A (pyNext it) (fun r s1 => match r with
      | none => R (.ok .next) s1
      | some v => wpAny (model prog w) A (letOwnedTupleGo t it v) (fun _ s2 => wpAny (model prog w) A (assign t env v) (fun _ s3 => wpAny (model prog w) A (testsT ifs env) (fun ok s4 =>
          if ok = true then wpAny (model prog w) A cont (fun fin s5 => fin = .again (.compLoop c d it acc env) ∧ ∃ j, j < m ∧ Iv j s5) (Noted prog w A env R) s4 else ∃ j, j < m ∧ Iv j s4) (Noted prog w A env R) s3) (Noted prog w A env R) s2) (Noted prog w A env R) s1) (Noted prog w A env R) sx)
    (m : Nat) {s : Shared} (h : Iv m s) : codeAny (model prog w) A (.compLoop c d it acc env) R s := by
  refine codeAny_loop rfl Iv (fun m sx hI => ?_) m h
  obtain ⟨eA, eD⟩ := hden _ rfl
  rw [eA, eD]
  refine wpAny_noted ?_
  rw [ht]
  refine wpAny_bind (wpAny_standAt (wpAny_bind (wpAny_mono (turn m sx hI) (fun r s1 h1 => ?_) fun _ _ z => z)))
  cases r with
  | none => exact wpAny_pure h1
  | some v =>
    refine wpAny_bind (wpAny_mono h1 (fun _ s2 h2 => ?_) fun _ _ z => z)
    refine wpAny_bind (wpAny_mono h2 (fun _ s3 h3 => ?_) fun _ _ z => z)
    refine wpAny_bind (wpAny_mono h3 (fun ok s4 h4 => ?_) fun _ _ z => z)
    cases ok with
    | false => exact wpAny_pure ⟨rfl, h4⟩
    | true =>
      rw [if_pos rfl] at h4 ⊢
      refine wpAny_mono h4 (fun fn s5 h5 => ?_) fun _ _ z => z
      rw [h5.1]
      exact ⟨rfl, h5.2⟩
end
section
variable {prog : Program} {w : World} {A : Around} {elt t0 i0 t1 i1 : Expr} {f0 f1 : List Expr} {scope : Scope} {pos : Pos} {it acc : Value} {env : Env}
abbrev sc2 (elt t0 i0 t1 i1 : Expr) (f0 f1 : List Expr) (scope : Scope) (pos : Pos) : Expr := .SetComp elt [⟨t0, i0, f0, 0⟩, ⟨t1, i1, f1, 0⟩] scope pos
theorem den_out : ∀ B, (B = A.under (.compLoop (sc2 elt t0 i0 t1 i1 f0 f1 scope pos) 0 it acc env)) → B = A ∧ (model prog w).den (.compLoop (sc2 elt t0 i0 t1 i1 f0 f1 scope pos) 0 it acc env) = (compTurn (sc2 elt t0 i0 t1 i1 f0 f1 scope pos) 0 it acc env).onRaise (fun x => do noteFrame x env; theTreesLotGoes x) := fun B e => ⟨e, rfl⟩
theorem den_in : ∀ B, (B = A.under (.compLoop (sc2 elt t0 i0 t1 i1 f0 f1 scope pos) 1 it acc env)) → B = A ∧ (model prog w).den (.compLoop (sc2 elt t0 i0 t1 i1 f0 f1 scope pos) 1 it acc env) = (compTurn (sc2 elt t0 i0 t1 i1 f0 f1 scope pos) 1 it acc env).onRaise (fun x => do noteFrame x env; theTreesLotGoes x) := fun B e => ⟨e, rfl⟩
theorem turn_out : compTurn (sc2 elt t0 i0 t1 i1 f0 f1 scope pos) 0 it acc env = (do
      standAt i0.pos
      match ← pyNext it with
      | none => pure (.done .next)
      | some v =>
        letOwnedTupleGo t0 it v
        assign t0 env v
        let ok ← testsT f0 env
        if ok = true then (do
          let x ← eval i1 env
          standAt i1.pos
          let x ← foldedSetIterable i1 env x
          let _ ← runOwn (.compStart (sc2 elt t0 i0 t1 i1 f0 f1 scope pos) 1 (← holding [x] (pyIter x)) acc env) env
          again (.compLoop (sc2 elt t0 i0 t1 i1 f0 f1 scope pos) 0 it acc env)) else again (.compLoop (sc2 elt t0 i0 t1 i1 f0 f1 scope pos) 0 it acc env)) := by rfl
theorem turn_in : compTurn (sc2 elt t0 i0 t1 i1 f0 f1 scope pos) 1 it acc env = (do
      standAt i1.pos
      match ← pyNext it with
      | none => pure (.done .next)
      | some v =>
        letOwnedTupleGo t1 it v
        assign t1 env v
        let ok ← testsT f1 env
        if ok = true then (do
          (do let v ← eval elt env; standAt elt.pos; let _ ← call (.builtin "set.add") [acc, v])
          again (.compLoop (sc2 elt t0 i0 t1 i1 f0 f1 scope pos) 1 it acc env)) else again (.compLoop (sc2 elt t0 i0 t1 i1 f0 f1 scope pos) 1 it acc env)) := by rfl
end
section
variable {prog : Program} {w : World} {A : Around} {R : Result → Shared → Prop} {s : Shared} {elt t0 i0 t1 i1 : Expr} {f0 f1 : List Expr} {scope : Scope} {pos : Pos} {it acc : Value} {env : Env}
theorem start_any {d : Nat} {ip : Pos} (hd : (d = 0 ∧ ip = i0.pos) ∨ (d = 1 ∧ ip = i1.pos)) (hl : codeAny (model prog w) A (.compLoop (sc2 elt t0 i0 t1 i1 f0 f1 scope pos) d it acc env) R s)
    (hi : wpAny (model prog w) A (pyIter it) (fun jt sx => codeAny (model prog w) A (.compLoop (sc2 elt t0 i0 t1 i1 f0 f1 scope pos) d jt acc env) R sx) (Noted prog w A env R) s) : codeAny (model prog w) A (.compStart (sc2 elt t0 i0 t1 i1 f0 f1 scope pos) d it acc env) R s := by
  refine codeAny_of_tree ?_
  rcases hd with ⟨rfl, rfl⟩ | ⟨rfl, rfl⟩
  all_goals
    show wpAny _ _ ((compStart (sc2 elt t0 i0 t1 i1 f0 f1 scope pos) _ it acc env).onRaise (fun x => do noteFrame x env; standAt theWindowsPlace)) _ _ s
    refine wpAny_notedAt ?_
    unfold compStart
    show wpAny _ _ (ask >>= _) _ _ s
    refine wpAny_bind (wpAny_askSetting (wpAny_ite ?_))
    split
    · first
        | exact wpAny_pure (And.intro rfl hl)
        | exact wpAny_bind (wpAny_pure (wpAny_pure (And.intro rfl hl)))
    · refine wpAny_bind (wpAny_rule ?_)
      first
        | exact wpAny_bind (wpAny_standAt (wpAny_bind (wpAny_mono hi (fun jt sx hj => wpAny_pure (And.intro rfl hj)) fun _ _ z => z)))
        | (show wpAny _ _ (standAt i0.pos >>= _) _ _ s; exact wpAny_bind (wpAny_standAt (wpAny_bind (wpAny_mono hi (fun jt sx hj => wpAny_pure (And.intro rfl hj)) fun _ _ z => z))))
        | (show wpAny _ _ (standAt i1.pos >>= _) _ _ s; exact wpAny_bind (wpAny_standAt (wpAny_bind (wpAny_mono hi (fun jt sx hj => wpAny_pure (And.intro rfl hj)) fun _ _ z => z))))
end
/-- the reading: the set stands at D0 -/
def tSc2 (P : Program) (w : World) (wi : TI) (g : TG) (tt : TT) (wi1 : TI) (g1 : TG) (tt1 : TT) (te : TE) (vs vs1 : List Nat) : TE := fun σ H Q => wi σ H fun J H1 => ∀ D0, H1 D0 = none →
  ∃ W : Nat → Nat → Hp → Prop, (∃ m, W 0 m (upd H1 D0 (SetMO P w D0 []))) ∧ ∀ i m H, W i m H → (J.stop i H ∧ Q (.ref D0) H) ∨ (J.go i H ∧ ∃ Nx : Hp → Prop, (∀ H', Nx H' → ∃ m', m' < m ∧ W (i + 1) m' H') ∧ ∀ x H', J.yld i H x H' →
    g x (L2.wipe σ vs) H' fun σ2 H2 => L2.wipe σ2 vs = L2.wipe σ vs ∧ tt σ2 H2 fun b H3 => if b = true then wi1 σ2 H3 fun J1 H4 => ∃ W1 : Nat → Nat → Hp → Prop, (∃ m, W1 0 m H4) ∧ ∀ j k H, W1 j k H →
      (J1.stop j H ∧ Nx H) ∨ (J1.go j H ∧ ∃ Nx1 : Hp → Prop, (∀ H', Nx1 H' → ∃ k', k' < k ∧ W1 (j + 1) k' H') ∧ ∀ x H', J1.yld j H x H' → g1 x (L2.wipe σ2 vs1) H' fun σ3 H5 => L2.wipe σ3 vs1 = L2.wipe σ2 vs1 ∧ tt1 σ3 H5 fun b H6 =>
        if b = true then te σ3 H6 fun y H7 => ∃ L k, y = kV k ∧ H7 D0 = some (SetMO P w D0 L) ∧ L.length + 1 < scanBound ∧ Nx1 (upd H7 D0 (SetMO P w D0 (addM L k))) else Nx1 H6)
      else Nx H3)
section
variable {X : Cx} {elt t0 i0 t1 i1 : Expr} {f0 f1 : List Expr} {scope : Scope} {pos : Pos} {own : List (Str × Nat)} {vs1 : List Nat} {wi wi1 : TI} {g g1 : TG} {tt tt1 : TT} {te : TE}
theorem pe_sc2 (hc : X.calm = true) (hN : X.N.Nodup) (hi : PI X t0 i0 wi) (ok : BlkOk X.N X.env.scope scope own) (hv : ∀ i ∈ vs1, i ∈ own.map (·.2)) (hg : BlkAt X (fun X' => PG X' t0 g) scope) (ht : BlkAt X (fun X' => PTs X' f0 tt) scope) (hi1 : BlkAt X (fun X' => PI X' t1 i1 wi1) scope)
    (hg1 : BlkAt X (fun X' => PG X' t1 g1) scope) (ht1 : BlkAt X (fun X' => PTs X' f1 tt1) scope) (he : BlkAt X (fun X' => PE X' elt te) scope) (hs : ∀ x, foldedSetIterable i0 X.env x = pure x) (hs1 : ∀ env x, foldedSetIterable i1 env x = pure x) :
    PE X (sc2 elt t0 i0 t1 i1 f0 f1 scope pos) (tSc2 X.prog X.w wi g tt wi1 g1 tt1 te (own.map (·.2)) vs1) := by
  refine ⟨fun pins s σ H Q I h => ?_⟩
  show wpAny _ _ (comprehension (sc2 elt t0 i0 t1 i1 f0 f1 scope pos) scope X.env (firstIterPos [⟨t0, i0, f0, 0⟩, ⟨t1, i1, f1, 0⟩] pos) (newSet (.type "set")) false (eval i0 X.env)) _ _ s
  have hfree : ∀ y ∈ scope.names, y.2 = .free → ∃ q, X.env.cells.lookup y.1 = some q := fun y hy e => (ok.free y hy e).elim (fun k => I.ok.has _ (.inl k)) fun k => I.ok.has _ (.inr k)
  refine wpAny_comprehension_free (use := none) rfl hs (closure_ok hfree) ok.kind (fun y hy e => by rw [ok.uniq y hy, e]) (thn (hi.run pins s σ H _ I h) fun xv sa hx => thn hx fun jt sb hb => ?_)
  obtain ⟨jt, fp, tn, J, H2, rfl, I2, T, st2, f2, q⟩ := hb
  refine wpAny_newSet_raw fun led hled => newEnv_comp ?_
  subst hled
  obtain ⟨D0, hD⟩ : ∃ D0, sb.heap.objs.size = D0 := ⟨_, rfl⟩
  rw [hD]
  have hDn : H2 D0 = none := I2.hok.fresh (Nat.le_of_eq hD)
  obtain ⟨W, ⟨m0, w0⟩, turn⟩ := q D0 hDn
  obtain ⟨sc, hsc⟩ : ∃ sc : Shared, sc = { sb with heap := sb.heap.push { cls := .type "set", dict := none, data := .set #[] 0 (.fresh 0 0 (!(X.w.params.followText "set-order"))) } } := ⟨_, rfl⟩
  have hh : sc.heap = sb.heap.push { cls := .type "set", dict := none, data := .set #[] 0 (.fresh 0 0 (!(X.w.params.followText "set-order"))) } := by rw [hsc]
  have I3 : Inv X pins σ (upd H2 D0 (SetMO X.prog X.w D0 [])) sc := by
    rw [hsc]
    refine I2.laid (t' := sb.toks) (fun b o e => Heap.get?_push_of_some _ e) (Nat.le_of_eq hD) (setMO_new ?_)
    rw [← hD]
    exact setM_fresh
  rw [← hsc]
  have f3 : ∀ b ∈ fp, FpOk X pins (upd H2 D0 (SetMO X.prog X.w D0 [])) b ∧ b < sc.heap.objs.size := fun b hb => by
    obtain ⟨o, e, _⟩ := T.obj _ _ st2 b hb
    have hlt := Heap.lt_size e
    refine ⟨⟨?_, (f2 b hb).2⟩, by rw [hh, Heap.size_push]; exact Nat.lt_succ_of_lt hlt⟩
    rw [upd_ne (by rw [← hD]; exact Nat.ne_of_lt hlt)]
    exact (f2 b hb).1
  have st3 : tn 0 sc.heap := T.keep _ _ _ st2 fun b _ o e => by rw [hh]; exact Heap.get?_push_of_some _ e
  have I4 := block_start I3 ok hN f3
  have pg := hg sc (upd H2 D0 (SetMO X.prog X.w D0 [])) sc.heap.objs.size (cellsFrom (sc.heap.objs.size + 1) scope.names (cloFrom X.env.cells scope.names [])) fp
  have pt := ht sc (upd H2 D0 (SetMO X.prog X.w D0 [])) sc.heap.objs.size (cellsFrom (sc.heap.objs.size + 1) scope.names (cloFrom X.env.cells scope.names [])) fp
  have pe := he sc (upd H2 D0 (SetMO X.prog X.w D0 [])) sc.heap.objs.size (cellsFrom (sc.heap.objs.size + 1) scope.names (cloFrom X.env.cells scope.names [])) fp
  have pi1 := hi1 sc (upd H2 D0 (SetMO X.prog X.w D0 [])) sc.heap.objs.size (cellsFrom (sc.heap.objs.size + 1) scope.names (cloFrom X.env.cells scope.names [])) fp
  have pg1 := hg1 sc (upd H2 D0 (SetMO X.prog X.w D0 [])) sc.heap.objs.size (cellsFrom (sc.heap.objs.size + 1) scope.names (cloFrom X.env.cells scope.names [])) fp
  have pt1 := ht1 sc (upd H2 D0 (SetMO X.prog X.w D0 [])) sc.heap.objs.size (cellsFrom (sc.heap.objs.size + 1) scope.names (cloFrom X.env.cells scope.names [])) fp
  show codeAny _ _ (.compStart (sc2 elt t0 i0 t1 i1 f0 f1 scope pos) 0 (.ref jt) (.ref D0) (compEnvC scope (cellsFrom (sc.heap.objs.size + 1) scope.names (cloFrom X.env.cells scope.names [])) sc.heap.objs.size X.env)) (compPost (model X.prog X.w) X.A X.xe none (EP X pins σ Q) (.ref D0) sc.heap.objs.size) { sc with heap := pushCells (sc.heap.push { cls := .type "dict", data := .dict #[] }) scope.names }
  have nfp : ∀ b ∈ fp, (upd H2 D0 (SetMO X.prog X.w D0 [])) b = none := fun b hb => (f3 b hb).1.1
  generalize hce : compEnvC scope (cellsFrom (sc.heap.objs.size + 1) scope.names (cloFrom X.env.cells scope.names [])) sc.heap.objs.size X.env = ce at I4 pg pt pe pi1 pg1 pt1 ⊢
  have cL : ce.locals = sc.heap.objs.size := by rw [← hce]; rfl
  generalize hH3 : upd H2 D0 (SetMO X.prog X.w D0 []) = H3 at I3 I4 pg pt pe pi1 pg1 pt1 w0 nfp f3
  generalize hs4 : ({ sc with heap := pushCells (sc.heap.push { cls := .type "dict", data := .dict #[] }) scope.names } : Shared) = sd at I4 ⊢
  have st4 : tn 0 sd.heap := T.keep _ _ _ st3 fun b _ o e => by rw [← hs4]; exact pushCells_keeps _ _ _ _ (Heap.get?_push_of_some _ e)
  have stat : ∀ {σ' : L2.St} {H' : Hp} {s' : Shared}, Inv (X.blk sc H3 scope ce fp) [] σ' H' s' → (∀ b ∈ fp, H' b = none) → ∀ b ∈ fp, FpOk (X.blk sc H3 scope ce fp) [] H' b := fun {σ' H' s'} I' hn b hb =>
    ⟨hn b hb, (I'.ok.exf b hb).1, I'.ok.exfs b hb, .inl hb, fun x q e => (I'.ok.exf b hb).2 x q e, fun r hr => absurd (show r ∈ ([] : List (Addr × Obj)) ++ [] from hr) (by simp)⟩
  -- the outer loop
  have outer : codeAny (model X.prog X.w) X.A (.compLoop (sc2 elt t0 i0 t1 i1 f0 f1 scope pos) 0 (.ref jt) (.ref D0) ce) (compPost (model X.prog X.w) X.A X.xe none (EP X pins σ Q) (.ref D0) sc.heap.objs.size) sd := by
    refine loop_gen den_out turn_out (fun n s' => ∃ i H', Inv (X.blk sc H3 scope ce fp) [] (L2.wipe σ (own.map (·.2))) H' s' ∧ tn i s'.heap ∧ (∀ b ∈ fp, H' b = none) ∧ W i n H') ?_ m0 ⟨0, H3, I4, st4, nfp, w0⟩
    rintro n se ⟨i, H5, I5, st5, n5, w5⟩
    rcases turn i n H5 w5 with ⟨stop, qq⟩ | ⟨go, Nx, hNx, step⟩
    · refine thnF (T.done (X.blk sc H3 scope ce fp) rfl rfl rfl hc i [] se _ H5 (fun _ _ => False) I5 (stat I5 n5) st5 stop) fun r sf ⟨hr, I6⟩ => ?_
      subst hr
      have I7 : Inv X pins σ H5 sf := I3.call' (ch := fp) I6.os I6.base I6.hok I6.bare fun b hb => ⟨(f3 b hb).1.2.2.2.1, (f3 b hb).1.2.1, (f3 b hb).1.2.2.2.2.1, (f3 b hb).1.2.2.2.2.2⟩
      have nC : H5 sc.heap.objs.size = none := by
        have z : H5 ce.locals = none := I6.free
        rw [cL] at z
        exact z
      obtain ⟨m, hn, _⟩ := I6.loc
      have hn : sf.heap.Ns ce.locals m := hn
      rw [cL] at hn
      have fC := I3.fpOk (H' := H5) (Nat.le_refl _) nC
      refine ⟨m, hn, fun h2 sbb => ?_⟩
      obtain ⟨g0, g1', g2, g3, g4, g5⟩ := fC
      exact ⟨.ref D0, H5, I7.turned (t' := sf.toks) (fun b o hb e => (sbb.2 b hb).trans e) g0 g1' g3 g4 g5, rfl, qq⟩
    · refine thnF (T.item (X.blk sc H3 scope ce fp) rfl rfl rfl hc i [] se _ H5 (fun _ _ => False) I5 (stat I5 n5) st5 go) fun r sf ⟨u, hr, h6⟩ => ?_
      subst hr
      refine thnF h6 fun _ sg ⟨x, H7, I7, r7, y7, st7, n7⟩ => ?_
      have I7' := I7.pinned (stat I7 n7) (T.obj _ _ st7)
      refine thnF (pg.run _ sg _ H7 x u _ I7' r7 (step x H7 y7)) fun _ sh ⟨σ8, H8, I8, hw8, q8⟩ => ?_
      refine thnF (pt.run _ sh σ8 H8 _ I8 q8) fun b si ⟨H9, I9, q9⟩ => ?_
      have hl8 : (L2.wipe σ (own.map (·.2))).length = σ8.length := by rw [← hw8, wipe_length]
      have hk8 : ∀ (j : Nat) v, (L2.wipe σ (own.map (·.2)))[j]? = some (some v) → σ8[j]? = some (some v) := fun j v e => by
        rw [← hw8] at e
        exact (wipe_some e).1
      have hk9 : ∀ (j : Nat) v, (L2.wipe σ (own.map (·.2)))[j]? = some (some v) → (L2.wipe σ8 vs1)[j]? = some (some v) := fun j v e => by
        rw [← hw8] at e
        obtain ⟨e1, e2⟩ := wipe_some e
        rw [L2.wipe_out fun z => e2 (hv j z)]
        exact e1
      have back : ∀ {σ9 : L2.St} {s' : Shared} {H' : Hp}, Inv (X.blk sc H3 scope ce fp) ([] ++ pinsAt fp sg.heap) σ9 H' s' → (L2.wipe σ (own.map (·.2))).length = σ9.length → (∀ (j : Nat) v, (L2.wipe σ (own.map (·.2)))[j]? = some (some v) → σ9[j]? = some (some v)) → Nx H' →
          ∃ m, m < n ∧ ∃ i H', Inv (X.blk sc H3 scope ce fp) [] (L2.wipe σ (own.map (·.2))) H' s' ∧ tn i s'.heap ∧ (∀ b ∈ fp, H' b = none) ∧ W i m H' := fun {σ9 s' H'} I' hl hk nx => by
        obtain ⟨m', hm, w'⟩ := hNx H' nx
        have pin' : ∀ b ∈ fp, ∀ o, sg.heap.get? b = some o → s'.heap.get? b = some o ∧ H' b = none := fun b hb o e =>
          have z := I'.pin (b, o) (List.mem_append_right _ (List.mem_append_right _ (mem_pinsAt hb e)))
          ⟨z.1, z.2.1⟩
        refine ⟨m', hm, i + 1, H', (I'.unpinned (pins := [])).weak hl hk, T.keep _ _ _ st7 fun b hb o e => (pin' b hb o e).1, fun b hb => ?_, w'⟩
        obtain ⟨o, e, _⟩ := T.obj _ _ st7 b hb
        exact (pin' b hb o e).2
      cases b with
      | false =>
        simp only [Bool.false_eq_true, if_false] at q9 ⊢
        exact back I9 hl8 hk8 q9
      | true =>
        simp only [if_true] at q9 ⊢
        refine wpAny_bind (thnF (pi1.run _ si σ8 H9 _ I9 q9) fun xv sj hx => ?_)
        refine wpAny_bind (wpAny_standAt (wpAny_bind (wpAny_of_eq (hs1 ce xv) (wpAny_bind (wpAny_holding (thnF hx fun itv sk h11 => ?_))))))
        refine wpAny_bind (wpAny_runOwn ?_)
        rw [Around.mark_none]
        obtain ⟨it1, fp1, tn1, J1, H11, e1, I11, T1, st11, f11, W1, ⟨m1, w1⟩, turn1⟩ := h11
        subst e1
        have stat1 : ∀ {H' : Hp}, (∀ b ∈ fp1, H' b = none) → ∀ b ∈ fp1, FpOk (X.blk sc H3 scope ce fp) ([] ++ pinsAt fp sg.heap) H' b := fun hn b hb => ⟨hn b hb, (f11 b hb).2⟩
        have inner : codeAny (model X.prog X.w) X.A (.compLoop (sc2 elt t0 i0 t1 i1 f0 f1 scope pos) 1 (.ref it1) (.ref D0) ce)
            (fun r s' => match r with
              | .ok _ => ∃ m, m < n ∧ ∃ i H', Inv (X.blk sc H3 scope ce fp) [] (L2.wipe σ (own.map (·.2))) H' s' ∧ tn i s'.heap ∧ (∀ b ∈ fp, H' b = none) ∧ W i m H'
              | .error _ => False) sk := by
          refine loop_gen den_in turn_in (fun k s' => ∃ j H', Inv (X.blk sc H3 scope ce fp) ([] ++ pinsAt fp sg.heap) (L2.wipe σ8 vs1) H' s' ∧ tn1 j s'.heap ∧ (∀ b ∈ fp1, H' b = none) ∧ W1 j k H') ?_ m1 ⟨0, H11, I11.weak (wipe_length _ _) (fun j v e => (wipe_some e).1), st11, fun b hb => (f11 b hb).1, w1⟩
          rintro k sl ⟨j, H12, I12, st12, n12, w12⟩
          rcases turn1 j k H12 w12 with ⟨stop1, nx1⟩ | ⟨go1, Nx1, hNx1, step1⟩
          · refine thnF (T1.done (X.blk sc H3 scope ce fp) rfl rfl rfl hc j _ sl (L2.wipe σ8 vs1) H12 (fun _ _ => False) I12 (stat1 n12) st12 stop1) fun r sm ⟨hr, I13⟩ => ?_
            subst hr
            exact back I13 (hl8.trans (wipe_length σ8 vs1).symm) hk9 nx1
          · refine thnF (T1.item (X.blk sc H3 scope ce fp) rfl rfl rfl hc j _ sl (L2.wipe σ8 vs1) H12 (fun _ _ => False) I12 (stat1 n12) st12 go1) fun r sm ⟨u1, hr, h13⟩ => ?_
            subst hr
            refine thnF h13 fun _ sn ⟨x1, H14, I14, r14, y14, st14, n14⟩ => ?_
            have I14' := I14.pinned (stat1 n14) (T1.obj _ _ st14)
            refine thnF (pg1.run _ sn (L2.wipe σ8 vs1) H14 x1 u1 _ I14' r14 (step1 x1 H14 y14)) fun _ so ⟨σ15, H15, I15, hw15, q15⟩ => ?_
            refine thnF (pt1.run _ so σ15 H15 _ I15 q15) fun b1 sp ⟨H16, I16, q16⟩ => ?_
            have back1 : ∀ {s' : Shared} {H' : Hp}, Inv (X.blk sc H3 scope ce fp) (([] ++ pinsAt fp sg.heap) ++ pinsAt fp1 sn.heap) σ15 H' s' → Nx1 H' → ∃ m, m < k ∧ ∃ j H', Inv (X.blk sc H3 scope ce fp) ([] ++ pinsAt fp sg.heap) (L2.wipe σ8 vs1) H' s' ∧ tn1 j s'.heap ∧ (∀ b ∈ fp1, H' b = none) ∧ W1 j m H' := fun {s' H'} I' nx => by
              obtain ⟨m', hm, w'⟩ := hNx1 H' nx
              have pin' : ∀ b ∈ fp1, ∀ o, sn.heap.get? b = some o → s'.heap.get? b = some o ∧ H' b = none := fun b hb o e =>
                have z := I'.pin (b, o) (List.mem_append_right _ (List.mem_append_right _ (mem_pinsAt hb e)))
                ⟨z.1, z.2.1⟩
              refine ⟨m', hm, j + 1, H', I'.unpinned.weak (by rw [← hw15, wipe_length]) (fun j v e => by rw [← hw15] at e; exact (wipe_some e).1), T1.keep _ _ _ st14 fun b hb o e => (pin' b hb o e).1, fun b hb => ?_, w'⟩
              obtain ⟨o, e, _⟩ := T1.obj _ _ st14 b hb
              exact (pin' b hb o e).2
            cases b1 with
            | false =>
              simp only [Bool.false_eq_true, if_false] at q16 ⊢
              exact back1 I16 q16
            | true =>
              simp only [if_true] at q16 ⊢
              refine wpAny_bind (wpAny_bind (thnF (pe.run _ sp σ15 H16 _ I16 q16) fun z sq ⟨yv, H17, I17, r17, L, kk, ek, hD17, hz17, nx⟩ => ?_))
              refine wpAny_bind (wpAny_standAt (wpAny_bind ?_))
              exact addM_ok (X := X.blk sc H3 scope ce fp) I17 hD17 hz17 r17 ek fun sr I18 => wpAny_pure (wpAny_pure ⟨rfl, back1 I18 nx⟩)
        refine codeAny_mono (start_any (.inr ⟨rfl, rfl⟩) inner (T1.self X.A 0 _ _ _ st11 inner)) fun r s' hr => ?_
        cases r with
        | ok fl =>
          first
            | exact wpAny_pure ⟨rfl, hr⟩
            | exact wpAny_bind (wpAny_pure (wpAny_pure ⟨rfl, hr⟩))
        | error e => exact hr.elim
  exact start_any (.inl ⟨rfl, rfl⟩) outer (T.self X.A 0 _ _ _ st4 outer)
end
end Y

namespace Y
open PySem PySem.W PySem.Spec PyProof.Rows L2
variable [TownS]
def SOk (vs : List Str) (acc : List D) : Prop := acc = vs.map PyData.str ∧ ∀ x ∈ vs, strOk x
theorem strsOf_eq : ∀ {l : List D} {xs : List Str}, strsOf l = some xs → l = xs.map PyData.str
  | [], xs, h => by cases h; rfl
  | x :: l, xs, h => by
    cases x with
    | str y =>
      cases hl : strsOf l with
      | none => simp [strsOf, strOf, hl] at h
      | some r =>
        have e : xs = y :: r := by simpa [strsOf, strOf, hl] using h.symm
        rw [e, strsOf_eq hl]
        rfl
    | _ => simp [strsOf, strOf] at h
theorem strs_inj : ∀ {a b : List Str}, a.map PyData.str = b.map PyData.str → a = b
  | [], [], _ => rfl
  | x :: a, y :: b, h => by
    rw [List.map_cons, List.map_cons, List.cons.injEq] at h
    have e : x = y := by injection h.1
    rw [e, strs_inj h.2]
  | [], _ :: _, h => by simp at h
  | _ :: _, [], h => by simp at h
theorem next_str : ∀ {a xs : List Str} {y : D} {r r2 : List D}, a.map PyData.str ++ (y :: r ++ r2) = xs.map PyData.str → ∃ x rest, y = .str x ∧ xs = a ++ x :: rest
  | [], x :: xs, y, r, r2, h => by
    have h : y :: (r ++ r2) = PyData.str x :: xs.map PyData.str := h
    rw [List.cons.injEq] at h
    exact ⟨x, xs, h.1, rfl⟩
  | [], [], y, r, r2, h => by simp at h
  | z :: a, x :: xs, y, r, r2, h => by
    have h : PyData.str z :: (a.map PyData.str ++ (y :: r ++ r2)) = PyData.str x :: xs.map PyData.str := h
    rw [List.cons.injEq] at h
    obtain ⟨x', rest, e1, e2⟩ := next_str h.2
    have e : z = x := by injection h.1
    exact ⟨x', rest, e1, by rw [e, e2]; rfl⟩
  | _ :: _, [], _, _, _, h => by simp at h
def dedStep (l : List Str) (x : Str) : List Str := if (l.any fun y => decide (y = x)) then l else l ++ [x]
theorem ded_mono : ∀ {m l : List Str}, l.length ≤ (m.foldl dedStep l).length
  | [], l => Nat.le_refl _
  | x :: m, l => by
    rw [List.foldl_cons]
    refine Nat.le_trans ?_ (ded_mono (m := m))
    unfold dedStep
    split
    · exact Nat.le_refl _
    · rw [List.length_append]; omega
theorem dedS_eq {l : List Str} : dedS l = l.foldl dedStep [] := rfl
theorem dedS_le {l m : List Str} : (dedS l).length ≤ (dedS (l ++ m)).length := by
  rw [dedS_eq, dedS_eq, List.foldl_append]
  exact ded_mono
theorem ded_sub : ∀ {m l : List Str} {x : Str}, x ∈ m.foldl dedStep l → x ∈ l ∨ x ∈ m
  | [], l, x, h => .inl h
  | y :: m, l, x, h => by
    rw [List.foldl_cons] at h
    rcases ded_sub h with h | h
    · unfold dedStep at h
      split at h
      · exact .inl h
      · rcases List.mem_append.mp h with h | h
        · exact .inl h
        · rw [List.mem_singleton.mp h]
          exact .inr (List.mem_cons_self ..)
    · exact .inr (List.mem_cons_of_mem _ h)
theorem dedS_sub {l : List Str} {x : Str} (h : x ∈ dedS l) : x ∈ l := by
  rcases ded_sub h with h | h
  · cases h
  · exact h
theorem addM_ded {P : Program} {w : World} {D0 : Addr} {l : List Str} {x : Str} : some (SetMO P w D0 (addM ((dedS l).map .inr) (.inr x))) = some (SetMO P w D0 ((dedS (l ++ [x])).map .inr)) := by
  congr 2
  rw [dedS_eq, dedS_eq, List.foldl_append]
  show addM ((l.foldl dedStep []).map .inr) (.inr x) = (dedStep (l.foldl dedStep []) x).map .inr
  generalize l.foldl dedStep [] = d
  unfold addM dedStep
  by_cases h : x ∈ d
  · rw [if_pos (List.mem_map.mpr ⟨x, h, rfl⟩), if_pos (List.any_eq_true.mpr ⟨x, h, decide_eq_true rfl⟩)]
  · rw [if_neg (fun z => by
      obtain ⟨y, hy, e⟩ := List.mem_map.mp z
      have e : y = x := Sum.inr.inj e
      exact h (e ▸ hy)), if_neg (fun z => by
      obtain ⟨y, hy, e⟩ := List.any_eq_true.mp z
      exact h (of_decide_eq_true e ▸ hy)), List.map_append]
    rfl
section
variable {p : Par} {c : Cnt} {C : Ck} {g : G} {X : Cx} {W : WX} {pos : Pos}
theorem sset2_imp (G : Good p c C g X W) {own0 own1 : List Nat} {tg tg1 : Tg} {it it1 : Y.It} {cc cc1 elt : E} {ifs ifs1 : List Expr} (hsl : ∀ i ∈ tgSl tg, i ∈ own0) (hsl1 : ∀ i ∈ tgSl tg1, i ∈ own1) (hif0 : ifs = [] → isTrueC cc = true) (hif1 : ifs1 = [] → isTrueC cc1 = true) {σ : L2.St} {H : Hp} {Q : VK}
    (h : tE p W g (.sset2 own0 tg it cc own1 tg1 it1 cc1 elt) σ H Q) :
    tSc2 X.prog X.w (tI p W g it) (tG p tg) (tTs p g cc ifs) (tI p W0 g it1) (tG p tg1) (tTs p g cc1 ifs1) (tE p W0 g elt) ((ownNm C.N own0).map (·.2)) own1 σ H (fun v H1 => rSortedM X.prog X.w [v] H1 Q) := by
  obtain ⟨B, own, ρ, k, er, f⟩ := h
  rw [snds]
  unfold ev at f
  cases hw : wipeOk ρ own0 with
  | false => rw [hw] at f; exact f.elim
  | true =>
    rw [hw] at f
    refine ⟨B, own, ρ, k, er, FinG.imp (FinG.bind f) (fun a ha J H1 er1 s1 hl itr D0 hD => ?_) fun _ _ x => x⟩
    have f2 := ha.2.imp (fun r hr => OK.later s1 er er1 hr) fun x k hx => XP.later s1 hx
    obtain ⟨l, k0⟩ := a
    have f3 := nox_ok f2
    -- the whole result
    have res : ∃ tot kf, comp2L (fun x => bindT tg x (wipeR ρ own0)) (fun ρ k => tstR (ev g cc ρ k)) (fun ρ k => if (!wipeOk ρ own1 || trI ρ it1) = true then .no else (evi g it1 ρ k).nox >>= fun q =>
        compL (fun x => bindT tg1 x (wipeR ρ own1)) (fun ρ k => tstR (ev g cc1 ρ k)) (fun ρ k => if kdOf ρ elt = .tr then .no else (ev g elt ρ k).nox) q.1 q.2) l k0 = .ok (tot, kf) ∧ ∃ xs, strsOf tot = some xs ∧ (dedS xs).length < 64 ∧ OK p B own ρ σ H1 .pl Q (.list ((sortStr (dedS xs)).map .str), kf) := by
      generalize comp2L _ _ _ l k0 = r at f3
      cases r with
      | ok r =>
        obtain ⟨tot, kf⟩ := r
        obtain ⟨xs, hxs, f3⟩ := FinG.of f3
        split at f3
        · rename_i hlim
          exact ⟨tot, kf, rfl, xs, hxs, of_decide_eq_true hlim, f3⟩
        · exact f3.elim
      | ex _ _ => exact f3.elim
      | no => exact f3.elim
    obtain ⟨tot, kf, e0, xs, hxs, hfew, okT⟩ := res
    have etot := strsOf_eq hxs
    obtain ⟨S, Yp, w, hS, hY⟩ := itr
    have np0 : ¬ hid B own D0 := new_np er1 hD
    have nT : ¬ B.isT D0 := fun z => np0 (isT_hid z)
    have nH0 : B.H0 D0 = none := by
      cases e : B.H0 D0 with
      | none => rfl
      | some o => rw [er1.base D0 o e nT] at hD; cases hD
    have nT' : ¬ (B.and D0).isT D0 := nT
    let so : List Str → HO := fun l => SetMO X.prog X.w D0 ((dedS l).map .inr)
    have wn := wipe_none er1 hw
    have ownE : lessL own (tgSl tg) = own := lessL_self fun i hi => wn i (hsl i hi)
    generalize hinner : (fun (ρ : Rho) (k : Nat) => if (!wipeOk ρ own1 || trI ρ it1) = true then (R.no : R (List D × Nat)) else (evi g it1 ρ k).nox >>= fun q =>
        compL (fun x => bindT tg1 x (wipeR ρ own1)) (fun ρ k => tstR (ev g cc1 ρ k)) (fun ρ k => if kdOf ρ elt = .tr then .no else (ev g elt ρ k).nox) q.1 q.2) = inner at e0
    let Fo : Nat → List D → Nat → Prop := fun i acc k => ∃ r, comp2L (fun x => bindT tg x (wipeR ρ own0)) (fun ρ k => tstR (ev g cc ρ k)) inner (l.drop i) k = .ok (r, kf) ∧ acc ++ r = tot
    let Pv : Nat → Hp → Prop := fun i H => ∃ k acc vs, ER p.K (B.and D0) own ρ k σ H ∧ Stp B H1 H ∧ H D0 = some (so vs) ∧ SOk vs acc ∧ Fo i acc k
    refine turns_it (stp := fun x H' Nx => tG p tg x (wipe σ own0) H' fun σ2 H2 => wipe σ2 own0 = wipe σ own0 ∧ tTs p g cc ifs σ2 H2 fun b H3 => if b = true then tI p W0 g it1 σ2 H3 fun J1 H4 => ∃ W1 : Nat → Nat → Hp → Prop, (∃ m, W1 0 m H4) ∧ ∀ j k H, W1 j k H →
      (J1.stop j H ∧ Nx H) ∨ (J1.go j H ∧ ∃ Nx1 : Hp → Prop, (∀ H', Nx1 H' → ∃ k', k' < k ∧ W1 (j + 1) k' H') ∧ ∀ x H', J1.yld j H x H' → tG p tg1 x (wipe σ2 own1) H' fun σ3 H5 => wipe σ3 own1 = wipe σ2 own1 ∧ tTs p g cc1 ifs1 σ3 H5 fun b H6 =>
        if b = true then tE p W0 g elt σ3 H6 fun y H7 => ∃ L k, y = kV k ∧ H7 D0 = some (SetMO X.prog X.w D0 L) ∧ L.length + 1 < scanBound ∧ Nx1 (upd H7 D0 (SetMO X.prog X.w D0 (addM L k))) else Nx1 H6)
      else Nx H3) w Pv ⟨k0, [], [], er1.and hD, Stp.same (same_new hD), upd_same, ⟨rfl, fun x h => nomatch h⟩, tot, by rw [List.drop_zero]; exact e0, rfl⟩ (fun i H _ ⟨k, acc, vs, er', s', _⟩ => hS H s'.src) (fun i x H H' hi ⟨k, acc, vs, er', s', hv, hq, r, hr, ht⟩ hy => ?_) (fun H ⟨k, acc, vs, er', s', hv, hq, r, hr, ht⟩ => ?_)
    · obtain ⟨d, hd, yd⟩ := hY i H x H' hi hy
      obtain ⟨er2, s2, qx⟩ := yd.rp hD s' er'
      rw [drop_cons hd] at hr
      obtain ⟨ρ1, b, k1, hb, htst, hrest⟩ := comp2L_inv hr
      have hv2 : H' D0 = some (so vs) := s2 D0 _ hv nT
      refine ⟨B.and D0, own, wipeR ρ own0, k, d, ρ1, er2.wipe hw, qx, hb, fun σ2 er3 o3 => ⟨(o3.wipe hsl).trans wipe_wipe, ?_⟩⟩
      rw [ownE] at er3
      -- from the block back to the turn's end
      have out : ∀ {k4 : Nat} {H4 : Hp}, (∀ t f, B.T = some (t, f) → H4 t = some (.lst (f k4))) → Stp (B.and D0) H H4 → ER p.K (B.and D0) own ρ k4 σ H4 := fun {k4 H4} t s6 => er'.step s6 t
      refine tTs_of hif0 er3 htst fun H3 er4 s4 => ?_
      have s64 : Stp (B.and D0) H H3 := fun b o e n => s4 b o (s2 b o e n) n
      cases b with
      | false =>
        rw [if_neg (by decide)] at hrest ⊢
        exact ⟨k1, acc, vs, out er4.town s64, fun b o e n => s64 b o (s' b o e n) n, s4 _ _ hv2 nT, hq, r, hrest, ht⟩
      | true =>
        rw [if_pos rfl] at hrest ⊢
        obtain ⟨r1, k2, r2, hin, hrest, er⟩ := hrest
        subst er
        rw [← hinner] at hin
        dsimp only at hin
        cases hwt : (!wipeOk ρ1 own1 || trI ρ1 it1) with
        | true => rw [hwt] at hin; cases hin
        | false =>
          rw [hwt] at hin
          rw [if_neg (by decide)] at hin
          rw [Bool.or_eq_false_iff] at hwt
          have hw1 : wipeOk ρ1 own1 = true := by simpa using hwt.1
          obtain ⟨q, h1, h2⟩ := bind_inv hin
          obtain ⟨l1, k3⟩ := q
          have h1 := nox_inv h1
          have h2 : compL (fun x => bindT tg1 x (wipeR ρ1 own1)) (fun ρ k => tstR (ev g cc1 ρ k)) (fun ρ k => if kdOf ρ elt = .tr then .no else (ev g elt ρ k).nox) l1 k3 = .ok (r1, k2) := h2
          refine ⟨B.and D0, own, ρ1, k1, er4, ?_⟩
          rw [h1]
          intro J1 H4 er5 s5 hl1 itr1
          rw [hwt.2] at itr1
          obtain ⟨S1, Yp1, w1, hS1, hY1⟩ := itr1
          have wn1 := wipe_none er5 hw1
          have ownE1 : lessL own (tgSl tg1) = own := lessL_self fun i hi => wn1 i (hsl1 i hi)
          have hv4 : H4 D0 = some (so vs) := s5 _ _ (s4 _ _ hv2 nT) nT
          have s65 : Stp (B.and D0) H H4 := fun b o e n => s5 b o (s64 b o e n) n
          -- all but the new list stays
          let SD : Hp → Hp → Prop := fun Ha Hb => ∀ b o, Ha b = some o → b ≠ D0 → ¬ B.isT b → Hb b = some o
          have back : ∀ {ρa : Rho} {ka kb : Nat} {σa : L2.St} {Ha Hb : Hp} {o : HO}, ER p.K (B.and D0) own ρa ka σa Ha → SD Ha Hb → Hb D0 = some o → (∀ t f, B.T = some (t, f) → Hb t = some (.lst (f kb))) → ER p.K (B.and D0) own ρa kb σa Hb := fun {ρa ka kb σa Ha Hb o} ea sd eo et => by
            refine (ea.write0 (o := o) (.inr rfl) nT' nH0).step (fun b u e n => ?_) et
            by_cases hb : b = D0
            · subst hb
              rw [upd_same] at e
              cases e
              exact eo
            · rw [upd_ne hb] at e
              exact sd b u e hb n
          let Pv1 : Nat → Hp → Prop := fun j H5 => ∃ k acc1 vs1 r, ER p.K (B.and D0) own ρ1 k σ2 H5 ∧ SD H4 H5 ∧ H5 D0 = some (so vs1) ∧ SOk vs1 acc1 ∧
            compL (fun x => bindT tg1 x (wipeR ρ1 own1)) (fun ρ k => tstR (ev g cc1 ρ k)) (fun ρ k => if kdOf ρ elt = .tr then .no else (ev g elt ρ k).nox) (l1.drop j) k = .ok (r, k2) ∧ acc1 ++ (r ++ r2) = tot
          have kpOf : ∀ {H5}, SD H4 H5 → Kp (B.and D0) own H4 H5 := fun {H5} sd b o e n => sd b o e (fun z => n (and_hid.mpr (.inr z))) fun z => n (isT_hid (B := B.and D0) z)
          refine turns_it (stp := fun x H' Nx => tG p tg1 x (wipe σ2 own1) H' fun σ3 H5 => wipe σ3 own1 = wipe σ2 own1 ∧ tTs p g cc1 ifs1 σ3 H5 fun b H6 =>
            if b = true then tE p W0 g elt σ3 H6 fun y H7 => ∃ L k, y = kV k ∧ H7 D0 = some (SetMO X.prog X.w D0 L) ∧ L.length + 1 < scanBound ∧ Nx (upd H7 D0 (SetMO X.prog X.w D0 (addM L k))) else Nx H6) w1 Pv1 ⟨k3, acc, vs, r1, er5, fun b o e _ _ => e, hv4, hq, by rw [List.drop_zero]; exact h2, by rw [ht]⟩ (fun j H5 _ ⟨k, acc1, vs1, r, ea, sd, _⟩ => hS1 H5 ?_) (fun j x H5 H6 hj ⟨k, acc1, vs1, r, ea, sd, hv5, hq5, hr5, ht5⟩ hy1 => ?_) (fun H5 ⟨k, acc1, vs1, r, ea, sd, hv5, hq5, hr5, ht5⟩ => ?_)
          · unfold Src
            rw [if_neg (by decide)]
            exact kpOf sd
          · obtain ⟨d1, hd1, yd1⟩ := hY1 j H5 x H6 hj hy1
            have os5 : OSx (B.and D0) own H4 own H5 := ⟨kpOf sd, fun i a h => .inl ⟨i, h⟩⟩
            obtain ⟨ea6, s6, qx1⟩ := yd1.rpX os5 ea
            rw [drop_cons hd1] at hr5
            obtain ⟨ρ2, b1, k5, hb1, htst1, hrest1⟩ := compL_inv hr5
            refine ⟨B.and D0, own, wipeR ρ1 own1, k, d1, ρ2, ea6.wipe hw1, qx1, hb1, fun σ3 er7 o7 => ⟨(o7.wipe hsl1).trans wipe_wipe, ?_⟩⟩
            rw [ownE1] at er7
            refine tTs_of hif1 er7 htst1 fun H7 er8 s8 => ?_
            have s68 : Stp (B.and D0) H5 H7 := fun b o e n => s8 b o (s6 b o e n) n
            have hv7 : H7 D0 = some (so vs1) := s68 _ _ hv5 nT
            have sd7 : SD H4 H7 := fun b o e n1 n2 => s68 b o (sd b o e n1 n2) n2
            cases b1 with
            | false =>
              rw [if_neg (by decide)] at hrest1 ⊢
              exact ⟨k5, acc1, vs1, r, ea.step s68 er8.town, sd7, hv7, hq5, hrest1, ht5⟩
            | true =>
              rw [if_pos rfl] at hrest1 ⊢
              obtain ⟨y, k6, r3, he, hrest1, er⟩ := hrest1
              subst er
              split at he
              · cases he
              · rename_i hk
                have he := nox_inv he
                refine ⟨B.and D0, own, ρ2, k5, er8, ?_⟩
                rw [he]
                intro v H8 er9 s9 q9
                have s89 : Stp (B.and D0) H5 H8 := fun b o e n => s9 b o (s68 b o e n) n
                have hv8 : H8 D0 = some (so vs1) := s9 _ _ hv7 nT
                -- the item is a text, the next one of the whole
                have hy : ∃ x rest, y = .str x ∧ xs = vs1 ++ x :: rest := by
                  rw [etot, hq5.1] at ht5
                  exact next_str ht5
                obtain ⟨x, rest, rfl, exs⟩ := hy
                have hz : (dedS vs1).length < 64 := by
                  have h0 := dedS_le (l := vs1) (m := x :: rest)
                  rw [← exs] at h0
                  omega
                obtain ⟨ev, okx⟩ := (q9.weak er9).str_inv
                have sd8 : ∀ o, SD H4 (upd H8 D0 o) := fun o b u e n1 n2 => by
                  rw [upd_ne n1]
                  exact s9 b u (sd7 b u e n1 n2) n2
                have ea8 : ER p.K (B.and D0) own ρ1 k6 σ2 H8 := ea.step s89 er9.town
                refine ⟨(dedS vs1).map .inr, .inr x, ev, hv8, by rw [List.length_map]; unfold scanBound; omega, k6, acc1 ++ [.str x], vs1 ++ [x], r3, ea8.write0 (.inr rfl) nT' nH0, sd8 _, ?_, ⟨?_, fun z hz => ?_⟩, hrest1, ?_⟩
                · rw [upd_same, addM_ded]
                · rw [hq5.1, List.map_append]
                  rfl
                · rcases List.mem_append.mp hz with hz | hz
                  · exact hq5.2 z hz
                  · rw [List.mem_singleton.mp hz]
                    exact okx
                · rw [← ht5, List.append_assoc]
                  rfl
          · rw [List.drop_length] at hr5
            have hr5 : R.ok (([] : List D), k) = .ok (r, k2) := hr5
            cases hr5
            have sd0 : SD H H5 := fun b o e n1 n2 => sd b o (s65 b o e n2) n1 n2
            have e1 := back er' sd0 hv5 ea.town
            refine ⟨_, acc1, vs1, e1, fun b o e n => ?_, hv5, hq5, r2, hrest, ?_⟩
            · have hne : b ≠ D0 := fun z => by rw [z, hD] at e; cases e
              exact sd0 b o (s' b o e n) hne n
            · rw [← ht5]
              rfl
    · rw [List.drop_length] at hr
      have hr : R.ok (([] : List D), k) = .ok (r, kf) := hr
      cases hr
      rw [List.append_nil] at ht
      have e1 : vs = xs := by
        rw [etot, hq.1] at ht
        exact strs_inj ht
      subst e1
      refine ⟨D0, dedS vs, rfl, hv, hfew, fun q hq0 => ?_⟩
      have hlen : ((sortStr (dedS vs)).map V.str).length ≤ sizeLine := by
        rw [List.length_map, sortStr_perm.length_eq, sizeLine_eq]
        omega
      have er8 := er'.unand
      exact okT _ _ (er8.alloc hq0) (fun b o e n => same_new hq0 b o (s' b o e n)) (new_lst er8 hq0 hlen (strs_rps fun b hb => hq.2 b (dedS_sub (sortStr_perm.mem_iff.mp hb))))
theorem c_sset2 (G : Good p c C g X W) {own0 own1 : List Nat} {tg tg1 : Tg} {it it1 : Y.It} {cc cc1 elt : E} {e t i t1 i1 : Expr} {ifs ifs1 : List Expr} {scope : Scope} {p1 p2 : Pos} (hv0 : glB X.env.scope "sorted" = true) (hb0 : C.bl.contains ("sorted" : Str) = true) (hb : blkC C.N X.env.scope scope (ownNm C.N own0) = true)
    (ht : ckT C.N (fun x => scope.names.lookup x == some .cell) (relS scope X.env.scope) tg t = true) (ht1 : ckT C.N (fun x => scope.names.lookup x == some .cell) (relS scope X.env.scope) tg1 t1 = true) (hs : (tgSl tg).all (fun j => own0.contains j) = true) (hs1 : (tgSl tg1).all (fun j => own1.contains j) = true) (ho : own1.all (fun j => own0.contains j) = true)
    (hi : PI X t i (tI p W g it)) (hpl : plainX i = true) (hpl1 : plainX i1 = true) (hif : BlkAt X (fun X' => PTs X' ifs (tTs p g cc ifs)) scope) (hif0 : ifs = [] → isTrueC cc = true) (hi1 : BlkAt X (fun X' => PI X' t1 i1 (tI p W0 g it1)) scope) (hif1 : BlkAt X (fun X' => PTs X' ifs1 (tTs p g cc1 ifs1)) scope) (hif10 : ifs1 = [] → isTrueC cc1 = true)
    (he : BlkAt X (fun X' => PE X' e (tE p W0 g elt)) scope) : PE X (.Call (.Name "sorted" p1) [sc2 e t i t1 i1 ifs ifs1 scope p2] [] pos) (tE p W g (.sset2 own0 tg it cc own1 tg1 it1 cc1 elt)) := by
  have hmg : X.mg "sorted" = none := by rw [G.mg]; exact G.tab.bl "sorted" (by simpa using hb0)
  have hsl : ∀ i ∈ tgSl tg, i ∈ own0 := fun i h => by simpa using List.all_eq_true.mp hs i h
  have hsl1 : ∀ i ∈ tgSl tg1, i ∈ own1 := fun i h => by simpa using List.all_eq_true.mp hs1 i h
  have hoo : ∀ i ∈ own1, i ∈ (ownNm C.N own0).map (·.2) := fun i h => by rw [snds]; simpa using List.all_eq_true.mp ho i h
  have hpe := pe_sc2 (pos := p2) G.calm (by rw [G.N]; exact G.nd) hi (own := ownNm C.N own0) (by rw [G.N]; exact blkOk_by hb) hoo (fun s H C0 cl fp => c_tg tg (G.blk s H scope _ fp) ht rfl) hif hi1 (fun s H C0 cl fp => c_tg tg1 (G.blk s H scope _ fp) ht1 rfl) hif1 he (plain_fold hpl) (fun env => plain_fold hpl1)
  exact (pe_callB (cr_sortedM G.calm) (gl_of hv0) hmg (by rfl) (pa_cons hpe pa_nil rfl) (by decide) (by decide) rfl rfl).imp fun σ H Q h => sset2_imp G hsl hsl1 hif0 hif10 h
end
end Y

namespace Y
open PySem PySem.W PySem.Spec PyProof.Rows L2
/-! ### set(xs), of ints and texts -/
section
variable {P : Program} {w : World} {A : Around}
/-- each item is the key that is told -/
def KeysAt (P : Program) (w : World) (ks : List Key) (i : Nat) (v : Value) : Prop := ∃ k, ks[i]? = some k ∧ (mixKind P w).is k v = true
noncomputable def setOfKeys (ks : List Key) : List Key := ks.foldl addM []
theorem addM_len {l : List Key} {k : Key} : (addM l k).length ≤ l.length + 1 := by
  unfold addM
  split
  · omega
  · rw [List.length_append, List.length_singleton]; exact Nat.le_refl _
theorem setOfKeys_len {ks : List Key} : (setOfKeys ks).length ≤ ks.length := by
  have : ∀ (ks l : List Key), (ks.foldl addM l).length ≤ l.length + ks.length := by
    intro ks
    induction ks with
    | nil => intro l; exact Nat.le_refl _
    | cons k ks ih =>
      intro l
      have h1 := ih (addM l k)
      have h2 := addM_len (l := l) (k := k)
      rw [List.foldl_cons, List.length_cons]
      omega
  have h := this ks []
  rw [List.length_nil, Nat.zero_add] at h
  exact h
theorem setOfKeys_take {ks : List Key} {i : Nat} {k : Key} (h : ks[i]? = some k) : setOfKeys (ks.take (i + 1)) = addM (setOfKeys (ks.take i)) k := by
  unfold setOfKeys
  rw [List.take_add_one, h, List.foldl_append]
  rfl
/-- the loop that adds one after the other -/
theorem setM_loop {It : Addr} {fp wr : List Addr} {Gn : Array GenState → Array GenState → Prop} {n : Nat} {Pv : Nat → Value → Prop} {St : Nat → Shared → Prop} {R : Result → Shared → Prop} (Wk : WalksS P w A.in1 It fp wr Gn n Pv St) (D : Addr) (hD : D ∉ fp) (ks : List Key) (hn : n = ks.length) (few : ks.length < 64)
    (hval : ∀ i v, Pv i v → KeysAt P w ks i v) (h0 : Heap) (hD0 : h0.get? D = none) (hw0 : ∀ b ∈ wr, h0.get? b = none) :
    ∀ (m i : Nat) (s1 : Shared), n - i = m → i ≤ n → St i s1 → (∀ b o, h0.get? b = some o → s1.heap.get? b = some o) → SetM P w s1.heap D (setOfKeys (ks.take i)) →
      (∀ s2, Moved (D :: wr) Gn s1 s2 → SetM P w s2.heap D (setOfKeys ks) → (∀ b o, h0.get? b = some o → s2.heap.get? b = some o) → R (.ok (.ret .none)) s2) →
      codeAny (model P w) A (.builtin "set.update.loop" ⟨[.ref D, .ref It], []⟩) R s1 := by
  have hDw : D ∉ wr := fun z => hD (Wk.sub _ z)
  have wider : ∀ b ∈ wr, b ∈ D :: wr := fun b z => List.mem_cons_of_mem _ z
  have kept : ∀ {s1 s2 : Shared}, Moved wr Gn s1 s2 → (∀ b o, h0.get? b = some o → s1.heap.get? b = some o) → ∀ b o, h0.get? b = some o → s2.heap.get? b = some o := fun mv z b o e => mv.heap b o (fun q => by rw [hw0 b q] at e; cases e) (z b o e)
  intro m
  induction m with
  | zero =>
    intro i s1 hm hi st z hS fin
    have e : i = n := by omega
    subst e
    refine codeAny_builtin F.entry_set_update_loop ?_
    rw [Around.under_plainId F.plain_set_update_loop _]
    refine wpAny_bind (m := pyNext (.ref It)) (Wk.done s1 _ _ st fun s2 mv => ?_)
    rw [hn, List.take_length] at hS
    exact wpAny_pure (fin s2 (mv.mono wider) (hS.keeps fun o q => mv.heap D o hDw q) (kept mv z))
  | succ m ih =>
    intro i s1 hm hi st z hS fin
    have lt : i < n := by omega
    refine codeAny_builtin F.entry_set_update_loop ?_
    rw [Around.under_plainId F.plain_set_update_loop _]
    refine wpAny_bind (m := pyNext (.ref It)) (Wk.item i s1 _ _ lt st fun v s2 pv st2 mv => ?_)
    obtain ⟨k, hk, is⟩ := hval i v pv
    have hS2 : SetM P w s2.heap D (setOfKeys (ks.take i)) := hS.keeps fun o q => mv.heap D o hDw q
    have room : (setOfKeys (ks.take i)).length + 1 < scanBound := by
      have h1 := setOfKeys_len (ks := ks.take i)
      rw [List.length_take] at h1
      unfold scanBound
      omega
    refine wpAny_bind (m := holding [v] (setAdd D v)) (wpAny_holding ?_)
    unfold setAdd
    refine wpAny_holding (wpAny_bind ((mixKind P w).pyHash is ?_))
    refine setM_put (s := { s2 with toks := s2.toks + 1 }) hS2 room is fun b h3 sb hS3 => ?_
    rw [← setOfKeys_take hk] at hS3
    refine wpAny_pure ⟨plainId_quiet F.plain_set_update_loop _, ih (i + 1) _ (by omega) lt (Wk.frame _ s2 _ _ st2 (Nat.le_succ _) fun b q o e => ?_) (fun b o e => ?_) hS3 fun s4 mv2 hS4 z4 => ?_⟩
    · rw [sb.2 b fun y : b = D => hD (y ▸ q)]; exact e
    · exact (sb.2 b fun y => by rw [y, hD0] at e; cases e).trans (kept mv z b o e)
    · refine fin s4 (Moved.trans Wk.gtrans ((mv.mono wider).then_heap (Nat.le_succ _) fun b o q e => ?_) mv2) hS4 z4
      rw [sb.2 b fun y : b = D => q (y ▸ List.mem_cons_self)]; exact e
end
section
variable {P : Program} {w : World} {A : Around} {E : Value → Shared → Prop} {s : Shared}
def emptyS (w : World) : Obj := { cls := .type "set", dict := none, data := .set #[] 0 (.fresh 0 0 (!w.params.followText "set-order")) }
theorem none_at {h : Heap} {b : Addr} (hb : h.objs.size ≤ b) : h.get? b = none := by
  cases q : h.get? b with
  | none => rfl
  | some o => exact absurd (Nat.lt_of_lt_of_le (Heap.lt_size q) hb) (Nat.lt_irrefl _)
set_option maxHeartbeats 4000000 in
theorem set_list {l : Addr} {items : Array Value} (ks : List Key) {Q : Value → Shared → Prop} (hh : A.handled = none) (hl : s.heap.IsList l items) (hn : items.size = ks.length) (hk : ∀ i v, items[i]? = some v → KeysAt P w ks i v) (few : ks.length < 64)
    (fin : ∀ (h2 : Heap) (tk : Nat), SetM P w h2 s.heap.objs.size (setOfKeys ks) → (∀ b o, s.heap.get? b = some o → h2.get? b = some o) → Q (.ref s.heap.objs.size) { s with heap := h2, toks := tk }) : wpAny (model P w) A (call (.type "set") [.ref l]) Q E s := by
  obtain ⟨c0, t0, mro0⟩ := F.called_set.mro
  have made0 := F.called_set.made; have sub0 := F.called_set.sub; have nt0 := F.called_set.notType; have cc0 := F.called_set.canCreate; have tc0 := F.typeCall_set_1 (.ref l)
  refine wpAny_call (codeAny_of_tree ?_); show wpAny _ _ (callAny (.type "set") _) _ _ _
  refine wpAny_pure ⟨Code.quiet_builtin _ (by decide +kernel), codeAny_builtin F.entry_type_call ?_⟩; rw [Around.under_plain (weight_type_call_type "set" [.ref l] []) rfl]
  repeat (any_goals (first | assumption | wp_step))
  refine codeAny_mono (code_set_led1 (.ref l) (E := E) (Q₁ := fun ob s3 => ob = .ref s.heap.objs.size ∧ s3 = { s with heap := s.heap.push (emptyS w) }) ⟨rfl, rfl⟩) fun r s3 hr => ?_
  match r, hr with
  | .error e, hr => exact hr
  | .ok (.ret ob), hr =>
    obtain ⟨rfl, rfl⟩ := hr
    have gS : (s.heap.push (emptyS w)).get? s.heap.objs.size = some (emptyS w) := Heap.get?_push_size _ rfl
    have tS : Shared.TypeIs { s with heap := s.heap.push (emptyS w) } (.ref s.heap.objs.size) "set" := ⟨_, gS, rfl⟩
    have li0 := F.called_set.init.lookup; have bi0 := F.called_set.init.bind (.ref s.heap.objs.size)
    repeat (any_goals (first | assumption | wp_step))
    refine codeAny_mono (codeAny_call_builtin (R := wants (fun r s4 => r = .none ∧ ∃ h2 tk, s4 = { s with heap := h2, toks := tk } ∧ SetM P w h2 s.heap.objs.size (setOfKeys ks) ∧ (∀ b o, s.heap.get? b = some o → h2.get? b = some o)) E) F.called_set.init.plain F.entry_set_init (check_set_init_1 tS ?_)) fun r2 s4 hr2 => ?_
    · obtain ⟨⟨ocls, odict, odata, oslots⟩, hol, hcl, nl, hdl⟩ := hl
      simp only at hcl hdl
      subst hcl hdl
      have hol2 : (s.heap.push (emptyS w)).get? l = some { cls := .type "list", dict := odict, data := .seq items nl, slots := oslots } := Heap.get?_push_of_some _ hol
      have s1 := F.sub_list_set; have s2 := F.sub_list_frozenset; have s3 : (Value.type "list" == Value.type "dict") = false := by decide
      have hl1 : (s.heap.push (emptyS w)).IsList l items := ⟨_, hol2, rfl, nl, rfl⟩
      unfold Builtin.«set.__init__» noKeywords Builtin.Frozenset.updateFrom; generalize hPI : pyIter = PI
      wp_walk
      subst hPI
      refine wpAny_pyIter_list hl1 (wpAny_bind (wpAny_runValue ?_))
      have lS : l < s.heap.objs.size := Heap.lt_size hol
      have hh3 : A.in1.in1.in1.handled = none := by simp [hh]
      have nI : l ≠ (s.heap.push (emptyS w)).objs.size := by rw [Heap.size_push]; exact Nat.ne_of_lt (Nat.lt_succ_of_lt lS)
      have nf : s.heap.objs.size ∉ [(s.heap.push (emptyS w)).objs.size, l] := by
        rw [Heap.size_push]
        simp only [List.mem_cons, List.not_mem_nil, or_false, not_or]
        exact ⟨Nat.ne_of_lt (Nat.lt_succ_self _), Nat.ne_of_gt lS⟩
      refine setM_loop ((Walks.list hh3 _ l nI items).toS) s.heap.objs.size nf ks hn few hk s.heap (none_at (Nat.le_refl _)) (fun b hb => none_at (by rw [List.mem_singleton.mp hb, Heap.size_push]; exact Nat.le_succ _)) (items.size - 0) 0 _ rfl (Nat.zero_le _) ⟨⟨_, Heap.get?_push_size _ rfl, rfl, rfl⟩, (hl1.push _)⟩ (fun b o e => Heap.get?_push_of_some _ (Heap.get?_push_of_some _ e)) (setM_fresh.keeps fun o e => Heap.get?_push_of_some _ e) fun s5 mv hS z => ?_
      obtain ⟨h2, g2, d2, tk2, os2⟩ := s5
      have eg : g2 = s.gens := mv.gens
      have ed : d2 = s.drawn := mv.drawn
      have eo : os2 = s.os := mv.os
      subst eg ed eo
      exact wpAny_pure (wpAny_pure ⟨rfl, h2, tk2, rfl, hS, z⟩)
    · match r2, hr2 with
      | .error e, hr2 => exact hr2
      | .ok (.ret rr), hr2 =>
        obtain ⟨rfl, h2, tk, rfl, hS, z⟩ := hr2
        repeat (any_goals (first | assumption | wp_step))
        exact fin h2 tk hS z
      | .ok .next, hr2 => exact hr2.elim
      | .ok .brk, hr2 => exact hr2.elim
      | .ok .cont, hr2 => exact hr2.elim
  | .ok .next, hr => exact hr.elim
  | .ok .brk, hr => exact hr.elim
  | .ok .cont, hr => exact hr.elim
set_option maxHeartbeats 4000000 in
theorem set_tuple {l : Addr} {items : Array Value} (ks : List Key) {Q : Value → Shared → Prop} (hh : A.handled = none) (hl : s.heap.IsTuple l items) (hn : items.size = ks.length) (hk : ∀ i v, items[i]? = some v → KeysAt P w ks i v) (few : ks.length < 64)
    (fin : ∀ (h2 : Heap) (tk : Nat), SetM P w h2 s.heap.objs.size (setOfKeys ks) → (∀ b o, s.heap.get? b = some o → h2.get? b = some o) → Q (.ref s.heap.objs.size) { s with heap := h2, toks := tk }) : wpAny (model P w) A (call (.type "set") [.ref l]) Q E s := by
  obtain ⟨c0, t0, mro0⟩ := F.called_set.mro
  have made0 := F.called_set.made; have sub0 := F.called_set.sub; have nt0 := F.called_set.notType; have cc0 := F.called_set.canCreate; have tc0 := F.typeCall_set_1 (.ref l)
  refine wpAny_call (codeAny_of_tree ?_); show wpAny _ _ (callAny (.type "set") _) _ _ _
  refine wpAny_pure ⟨Code.quiet_builtin _ (by decide +kernel), codeAny_builtin F.entry_type_call ?_⟩; rw [Around.under_plain (weight_type_call_type "set" [.ref l] []) rfl]
  repeat (any_goals (first | assumption | wp_step))
  refine codeAny_mono (code_set_led1 (.ref l) (E := E) (Q₁ := fun ob s3 => ob = .ref s.heap.objs.size ∧ s3 = { s with heap := s.heap.push (emptyS w) }) ⟨rfl, rfl⟩) fun r s3 hr => ?_
  match r, hr with
  | .error e, hr => exact hr
  | .ok (.ret ob), hr =>
    obtain ⟨rfl, rfl⟩ := hr
    have gS : (s.heap.push (emptyS w)).get? s.heap.objs.size = some (emptyS w) := Heap.get?_push_size _ rfl
    have tS : Shared.TypeIs { s with heap := s.heap.push (emptyS w) } (.ref s.heap.objs.size) "set" := ⟨_, gS, rfl⟩
    have li0 := F.called_set.init.lookup; have bi0 := F.called_set.init.bind (.ref s.heap.objs.size)
    repeat (any_goals (first | assumption | wp_step))
    refine codeAny_mono (codeAny_call_builtin (R := wants (fun r s4 => r = .none ∧ ∃ h2 tk, s4 = { s with heap := h2, toks := tk } ∧ SetM P w h2 s.heap.objs.size (setOfKeys ks) ∧ (∀ b o, s.heap.get? b = some o → h2.get? b = some o)) E) F.called_set.init.plain F.entry_set_init (check_set_init_1 tS ?_)) fun r2 s4 hr2 => ?_
    · obtain ⟨⟨ocls, odict, odata, oslots⟩, hol, hcl, nl, hdl⟩ := hl
      simp only at hcl hdl
      subst hcl hdl
      have hol2 : (s.heap.push (emptyS w)).get? l = some { cls := .type "tuple", dict := odict, data := .seq items nl, slots := oslots } := Heap.get?_push_of_some _ hol
      have s1 := F.sub_tuple_set; have s2 := F.sub_tuple_frozenset; have s3 : (Value.type "tuple" == Value.type "dict") = false := by decide
      have hl1 : (s.heap.push (emptyS w)).IsTuple l items := ⟨_, hol2, rfl, nl, rfl⟩
      unfold Builtin.«set.__init__» noKeywords Builtin.Frozenset.updateFrom; generalize hPI : pyIter = PI
      wp_walk
      subst hPI
      refine wpAny_pyIter_tuple hl1 (wpAny_bind (wpAny_runValue ?_))
      have lS : l < s.heap.objs.size := Heap.lt_size hol
      have hh3 : A.in1.in1.in1.handled = none := by simp [hh]
      have nI : l ≠ (s.heap.push (emptyS w)).objs.size := by rw [Heap.size_push]; exact Nat.ne_of_lt (Nat.lt_succ_of_lt lS)
      have nf : s.heap.objs.size ∉ [(s.heap.push (emptyS w)).objs.size, l] := by
        rw [Heap.size_push]
        simp only [List.mem_cons, List.not_mem_nil, or_false, not_or]
        exact ⟨Nat.ne_of_lt (Nat.lt_succ_self _), Nat.ne_of_gt lS⟩
      refine setM_loop ((Walks.tuple hh3 _ l nI items).toS) s.heap.objs.size nf ks hn few hk s.heap (none_at (Nat.le_refl _)) (fun b hb => none_at (by rw [List.mem_singleton.mp hb, Heap.size_push]; exact Nat.le_succ _)) (items.size - 0) 0 _ rfl (Nat.zero_le _) ⟨⟨_, Heap.get?_push_size _ rfl, rfl, rfl⟩, (hl1.push _)⟩ (fun b o e => Heap.get?_push_of_some _ (Heap.get?_push_of_some _ e)) (setM_fresh.keeps fun o e => Heap.get?_push_of_some _ e) fun s5 mv hS z => ?_
      obtain ⟨h2, g2, d2, tk2, os2⟩ := s5
      have eg : g2 = s.gens := mv.gens
      have ed : d2 = s.drawn := mv.drawn
      have eo : os2 = s.os := mv.os
      subst eg ed eo
      exact wpAny_pure (wpAny_pure ⟨rfl, h2, tk2, rfl, hS, z⟩)
    · match r2, hr2 with
      | .error e, hr2 => exact hr2
      | .ok (.ret rr), hr2 =>
        obtain ⟨rfl, h2, tk, rfl, hS, z⟩ := hr2
        repeat (any_goals (first | assumption | wp_step))
        exact fin h2 tk hS z
      | .ok .next, hr2 => exact hr2.elim
      | .ok .brk, hr2 => exact hr2.elim
      | .ok .cont, hr2 => exact hr2.elim
  | .ok .next, hr => exact hr.elim
  | .ok .brk, hr => exact hr.elim
  | .ok .cont, hr => exact hr.elim
end
end Y

namespace Y
open PySem PySem.W PySem.Spec PyProof.Rows L2
/-! ### as rules -/
section
variable {X : Cx}
/-- keys as values of the layer -/
def kVs (ks : List Key) : List V := ks.map kV
theorem keysAt_of {P : Program} {w : World} : ∀ {ks : List Key} {us : List Value}, Vals (kVs ks) us → ∀ i v, us[i]? = some v → KeysAt P w ks i v
  | [], _, .nil, i, v, h => by simp at h
  | k :: ks, u :: _, .cons r t, 0, v, h => by
    have e : u = v := by simpa using h
    exact ⟨k, rfl, e ▸ kV_is r⟩
  | k :: ks, _, .cons r t, i + 1, v, h => by
    obtain ⟨k', h1, h2⟩ := keysAt_of t i v (by simpa using h)
    exact ⟨k', by simpa using h1, h2⟩
def rSetK (K : PySem.W.Frag) (P : Program) (w : World) : List V → Hp → VK → Prop := fun vs H Q => ∃ (l : Addr) (ks : List Key), vs = [V.ref l] ∧ (SqL K H l (kVs ks) ∨ SqT K H l (kVs ks)) ∧ ks.length < 64 ∧ ∀ a, H a = none → Q (.ref a) (upd H a (SetMO P w a (setOfKeys ks)))
theorem cr_setK (hc : X.calm = true) : CallR X (.type "set") (rSetK X.K X.prog X.w) := by
  intro pins s σ H vs us Q I r h
  obtain ⟨l, ks, rfl, hl, few, q⟩ := h
  rw [Vals.ref1 r]
  have nw : H s.heap.objs.size = none := I.hok.fresh (Nat.le_refl _)
  have out : ∀ (h2 : Heap) (tk : Nat), SetM X.prog X.w h2 s.heap.objs.size (setOfKeys ks) → (∀ b o, s.heap.get? b = some o → h2.get? b = some o) → EP X pins σ Q (.ref s.heap.objs.size) { s with heap := h2, toks := tk } := fun h2 tk hS z =>
    ⟨.ref s.heap.objs.size, upd H s.heap.objs.size (SetMO X.prog X.w s.heap.objs.size (setOfKeys ks)), I.laid (t' := tk) z (Nat.le_refl _) (setMO_new hS), rfl, q _ nw⟩
  have len : ∀ {its : List Value}, Vals (kVs ks) its → its.toArray.size = ks.length := fun {its} rv => by
    rw [List.size_toArray, ← rv.length]
    exact List.length_map ..
  rcases hl with hl | hl
  · obtain ⟨its, rv, pl, hz⟩ := I.list hl
    exact set_list ks (I.ok.hd hc) pl.isList (len rv) (fun i v e => keysAt_of rv i v (by simpa using e)) few out
  · obtain ⟨its, rv, pl, hz⟩ := I.tuple hl
    exact set_tuple ks (I.ok.hd hc) pl (len rv) (fun i v e => keysAt_of rv i v (by simpa using e)) few out
end
end Y

namespace Y
open PySem PySem.W PySem.Spec PyProof.Rows L2
/-! ### len of a set, min of alike data -/
section
variable {X : Cx}
def rLenM (P : Program) (w : World) : List V → Hp → VK → Prop := fun vs H Q => ∃ (a : Addr) (L : List Key), vs = [V.ref a] ∧ H a = some (SetMO P w a L) ∧ Q (.int L.length) H
theorem cr_lenM : CallR X (.builtin "len") (rLenM X.prog X.w) := by
  intro pins s σ H vs us Q I r h
  obtain ⟨a, L, rfl, ha, q⟩ := h
  rw [Vals.ref1 r]
  obtain ⟨o, es, ep, t, ob, me, pe, nd, hb, hf, _⟩ := setMO_get I ha
  have sz : es.size = L.length := by
    have := pe.length_eq
    rw [List.length_map, Array.length_toList] at this
    exact this
  refine call_len_set ob.1 ob.2.1 ob.2.2 hf (by rw [sz]; unfold scanBound at hb; omega) ?_
  rw [sz]
  exact ⟨.int L.length, H, I.tok _, ⟨_, rfl⟩, q⟩
def rMinD (K : PySem.W.Frag) : List V → Hp → VK → Prop := fun vs H Q => ∃ (a : Addr) (xs : List V) (d : D) (ds : List D), vs = [V.ref a] ∧ SqL K H a xs ∧ DpAll K H xs (d :: ds) ∧ AlikeAll (d :: ds) ∧ PyData.depthAll (d :: ds) ≤ 63 ∧ ∀ (i : Nat) v, xs[i]? = some v → (d :: ds)[i]? = some (minD d ds) → Q v H
theorem minD_mem (d : D) (ds : List D) : ∃ i : Nat, (d :: ds)[i]? = some (minD d ds) := by
  have h : ∀ (ds : List D) (d : D), minD d ds ∈ d :: ds := by
    intro ds
    induction ds with
    | nil => intro d; exact List.mem_singleton.mpr rfl
    | cons e ds ih =>
      intro d
      have := ih (if dataLt e d then e else d)
      have e1 : minD d (e :: ds) = minD (if dataLt e d then e else d) ds := rfl
      rw [e1]
      rcases List.mem_cons.mp this with h | h
      · rw [h]
        split
        · exact List.mem_cons_of_mem _ (List.mem_cons_self ..)
        · exact List.mem_cons_self ..
      · exact List.mem_cons_of_mem _ (List.mem_cons_of_mem _ h)
  exact List.mem_iff_getElem?.mp (h ds d)
end
variable [TownS]
section
variable {K : PySem.W.Frag} {B : Bs} {own : Nat → Option Addr} {ρ : Rho} {k : Nat} {σ : L2.St} {H H1 H' : Hp} {v : V} {d : D} {kd : Kd}
/-! ### isinstance -/
def tyN : D → String
  | .none => "NoneType"
  | .bool _ => "bool"
  | .int _ => "int"
  | .str _ => "str"
  | .list _ => "list"
  | .tuple _ => "tuple"
  | .dict _ => "dict"
def tyT : Ty → String
  | .str => "str"
  | .int => "int"
  | .bool => "bool"
  | .tuple => "tuple"
  | .list => "list"
theorem tyX_of (q : Rp K H v d) : TyX K H v (.type (tyN d)) := by
  cases q with
  | non => exact .base .non
  | bl b => exact .base (.bl b)
  | int i => exact .base (.int i)
  | str x _ => exact .base (.str x)
  | lst h1 _ _ =>
    rcases h1 with (h | ⟨o, h⟩) | ⟨o, its, n, h, hc, _⟩
    · exact .base (.lst h)
    · exact .base (.frz h)
    · exact .kList h hc
  | tup h1 _ _ _ =>
    rcases h1 with (h | ⟨o, h⟩) | ⟨o, its, n, h, hc, _⟩
    · exact .base (.tup h)
    · exact .fTuple h
    · exact .kTuple h hc
  | dK h1 _ _ _ _ => exact .base (.dK h1)
  | dT h1 _ _ _ _ _ => exact .base (.dT h1)
theorem kit_tab (t : Ty) (d : D) : PySem.W.kitOne K (.type (tyN d)) (.type (tyT t)) = some (isD t d) := by
  refine kit_ty ?_
  have h0 : ∀ t, kitB "NoneType" (tyT t) = some false := by intro t; cases t <;> decide +kernel
  have h1 : ∀ t, kitB "bool" (tyT t) = some (decide (t = .bool) || decide (t = .int)) := by intro t; cases t <;> decide +kernel
  have h2 : ∀ t, kitB "int" (tyT t) = some (decide (t = .int)) := by intro t; cases t <;> decide +kernel
  have h3 : ∀ t, kitB "str" (tyT t) = some (decide (t = .str)) := by intro t; cases t <;> decide +kernel
  have h4 : ∀ t, kitB "list" (tyT t) = some (decide (t = .list)) := by intro t; cases t <;> decide +kernel
  have h5 : ∀ t, kitB "tuple" (tyT t) = some (decide (t = .tuple)) := by intro t; cases t <;> decide +kernel
  have h6 : ∀ t, kitB "dict" (tyT t) = some false := by intro t; cases t <;> decide +kernel
  cases d with
  | none => exact h0 t
  | bool _ => exact h1 t
  | int _ => exact h2 t
  | str _ => exact h3 t
  | list _ => exact h4 t
  | tuple _ => exact h5 t
  | dict _ => exact h6 t
end
section
variable {p : Par} {c : Cnt} {C : Ck} {g : G} {X : Cx} {W : WX} {pos : Pos}
theorem bl_none (G : Good p c C g X W) {x : Str} (h : C.bl.contains x = true) : X.mg x = none := by rw [G.mg]; exact G.tab.bl x (by simpa using h)
theorem c_isi (G : Good p c C g X W) {t : Ty} {a : E} {x : Expr} {p1 p2 : Pos} (h1 : C.bl.contains ("isinstance" : Str) = true) (h2 : glB X.env.scope "isinstance" = true) (h3 : C.bl.contains (tyS t) = true) (h4 : glB X.env.scope (tyS t) = true) (ha : PE X x (tE p W g a)) (hx : plainX x = true) :
    PE X (.Call (.Name "isinstance" p1) [x, .Name (tyS t) p2] [] pos) (tE p W g (.isi t a)) := by
  have hT : bootBuiltins (tyS t) = some (.type (tyT t)) := by cases t <;> decide +kernel
  have hn : tyS t ≠ "__name__" := by cases t <;> decide
  have hd : ((tyS t) == ("__debug__" : Str)) = false := by cases t <;> decide
  have hb : PE X (.Name (tyS t) p2) (tC (.ty (tyT t))) := pe_bltn (gl_of h4) (bl_none G h3) hT rfl hn hd
  refine (pe_callB call_isi (gl_of h2) (bl_none G h1) (by decide +kernel) (pa_cons ha (pa_cons hb pa_nil) (plain_star hx)) (by decide) (by decide) (plain_star hx)).imp fun σ H Q ⟨B, own, ρ, k, er, f⟩ => ?_
  unfold ev at f
  refine tE.bind (okβ := fun H r => OK p B own ρ σ H .pl Q r) er f (fun H1 k1 r s er1 h => h.later s er er1) fun d k1 v H1 er1 s1 q1 f => ?_
  rw [G.K]
  refine ⟨v, .ty (tyT t), _, .type (tyT t), isD t d, rfl, .ty _, tyX_of (q1.all er1), kit_tab t d, f _ _ er1 Stp.refl (.bl _)⟩
/-! ### zip, enumerate -/
theorem walk_zipT {K : PySem.W.Frag} {a b : Addr} {xs ys : List V} {n : Nat} (hn : n = min xs.length ys.length) : L2.Walk (RZ.ItzT K a b) n (fun H => SqT K H a xs ∧ SqT K H b ys) (YPair (fun i => xs[i]?) (fun i => ys[i]?)) := by
  refine ⟨fun i _ hi q => ?_, fun _ q => ⟨xs, ys, q.1, q.2, by omega⟩, fun i H v H' _ q y => ?_⟩
  · exact ⟨xs, ys, xs[i]'(by omega), ys[i]'(by omega), q.1, q.2, List.getElem?_eq_getElem _, List.getElem?_eq_getElem _⟩
  · obtain ⟨T, x, z, e1, e2, e3, e4, e5⟩ := y
    exact ⟨T, x, z, e1, e2, e3, e4 xs q.1, e5 ys q.2⟩
theorem Src.weak {B : Bs} {own : Nat → Option Addr} {H H' : Hp} {t1 t2 : Bool} (h : t1 = true → t2 = true) (s : Src B own t2 H H') : Src B own t1 H H' := by
  cases t1 with
  | true =>
    rw [h rfl] at s
    exact s
  | false =>
    cases t2 with
    | true => exact Stp.src (s : Stp B H H')
    | false => exact s
theorem yd_pair {K : PySem.W.Frag} {G : Hp} {xs ys : List V} {l m : List D} (r1 : Rps K G xs l) (r2 : Rps K G ys m) {i : Nat} {H2 H3 : Hp} {x : V} (hy : YPair (fun i => xs[i]?) (fun i => ys[i]?) i H2 x H3) : ∃ d, (pairUp l m)[i]? = some d ∧ Yd K G x d H2 H3 := by
  obtain ⟨T, a, b, e1, e2, e3, e4, e5⟩ := hy
  obtain ⟨da, h1, q1⟩ := r1.getV e4
  obtain ⟨db, h2, q2⟩ := r2.getV e5
  exact ⟨_, pairUp_get h1 h2, .inr ⟨T, a, b, da, db, e1, e2, e3, rfl, q1, q2⟩⟩
theorem i_zip (G : Good p c C g X W) {a b : E} {x y : Expr} {elts : List Expr} {kk : Nat} {tpos p1 p2 : Pos} (hv : glB X.env.scope "zip" = true) (hb : C.bl.contains ("zip" : Str) = true) (hx : plainX x = true) (hy : plainX y = true) (h1 : PE X x (tE p W g a)) (h2 : PE X y (tE p W g b)) :
    PI X (.Tuple elts kk tpos) (.Call (.Name "zip" p1) [x, y] [] p2) (tI p W g (.zip a b)) := by
  refine (RZ.pi_zipA (gl_of hv) (bl_none G hb) (pa_cons h1 (pa_cons h2 pa_nil (plain_star hy)) (plain_star hx)) (plain_star hx) (by rw [plain_star hy]; rfl)).imp fun σ H R ⟨B, own, ρ, k, er, f⟩ => ?_
  unfold evi at f
  refine tE.bind (okβ := fun H r => OKI p B own ρ σ H (.zip a b) R r) er f (fun H1 k1 r s er1 h => h.later s) fun d k1 v H1 er1 s1 q1 f => ?_
  refine tE.bind (okβ := fun H r => OKI p B own ρ σ H (.zip a b) R r) er1 f (fun H2 k2 r s er2 h => h.later s) fun e k2 u H2 er2 s2 q2 f => ?_
  obtain ⟨l, hl, f⟩ := FinG.of f
  have q1 := q1.later er1 s2
  rw [G.K]
  unfold zipD at hl
  split at hl
  · rename_i l1 l2
    cases hl
    obtain ⟨a1, xs, rfl, a2, a3, a4, a5⟩ := q1.listS er2
    obtain ⟨b1, ys, rfl, b2, b3, b4, b5⟩ := q2.listS er2
    refine ⟨a1, b1, xs, ys, rfl, .inl ⟨a2, b2, f _ H2 er2 Stp.refl (by rw [pairUp_len, ← a5.length]; omega) ⟨fun H3 => SqL p.K H3 a1 xs ∧ SqL p.K H3 b1 ys, _, walk_zip (by rw [pairUp_len, a5.length, b5.length]), fun H3 s => ⟨a3 H3 (Src.weak (fun z => (show (isTr (kdOf ρ a) || isTr (kdOf ρ b)) = true from by rw [z]; rfl)) s), b3 H3 (Src.weak (fun z => (show (isTr (kdOf ρ a) || isTr (kdOf ρ b)) = true from by rw [z, Bool.or_true])) s)⟩, fun i H3 x H4 hi hy => yd_pair a5 b5 hy⟩⟩⟩
  · rename_i l1 l2
    cases hl
    obtain ⟨a1, xs, rfl, a2, a3, a4, a5⟩ := q1.tupS er2
    obtain ⟨b1, ys, rfl, b2, b3, b4, b5⟩ := q2.tupS er2
    have kp : ∀ {H3 : Hp} {t : Bool}, Src B own t H2 H3 → Kp B own H2 H3 := fun {H3 t} s => by
      cases t with
      | true => exact (s : Stp B H2 H3).kp
      | false => exact s
    refine ⟨a1, b1, xs, ys, rfl, .inr ⟨a2, b2, f _ H2 er2 Stp.refl (by rw [pairUp_len, ← a5.length]; omega) ⟨fun H3 => SqT p.K H3 a1 xs ∧ SqT p.K H3 b1 ys, _, walk_zipT (by rw [pairUp_len, a5.length, b5.length]), fun H3 s => ⟨a3 H3 (kp s), b3 H3 (kp s)⟩, fun i H3 x H4 hi hy => yd_pair a5 b5 hy⟩⟩⟩
  · cases hl
theorem i_enum (G : Good p c C g X W) {a : E} {x : Expr} {elts : List Expr} {kk : Nat} {tpos p1 p2 : Pos} (hv : glB X.env.scope "enumerate" = true) (hb : C.bl.contains ("enumerate" : Str) = true) (hx : plainX x = true) (h1 : PE X x (tE p W g a)) :
    PI X (.Tuple elts kk tpos) (.Call (.Name "enumerate" p1) [x] [] p2) (tI p W g (.enum a)) := by
  refine (pi_enum (gl_of hv) (bl_none G hb) (pa_cons h1 pa_nil (plain_star hx)) (plain_star hx)).imp fun σ H R ⟨B, own, ρ, k, er, f⟩ => ?_
  unfold evi at f
  refine tE.bind (okβ := fun H r => OKI p B own ρ σ H (.enum a) R r) er f (fun H1 k1 r s er1 h => h.later s) fun d k1 v H1 er1 s1 q1 f => ?_
  obtain ⟨l, hl, f⟩ := FinG.of f
  have e : d = .list l := by cases d <;> simp [getL] at hl; rw [hl]
  subst e
  rw [G.K]
  obtain ⟨a1, xs, rfl, a2, a3, a4, a5⟩ := q1.listS er1
  have hlen : (enumD l).length = xs.length := by
    unfold enumD
    rw [pairUp_len, rangeD_len, a5.length]
    simp
  refine ⟨a1, xs, rfl, a2, f _ H1 er1 Stp.refl (by rw [hlen]; exact a4) ⟨fun H3 => SqL p.K H3 a1 xs, _, by rw [hlen]; exact walk_enum, a3, fun i H3 x H4 hi hy => ?_⟩⟩
  obtain ⟨T, y, z, e1, e2, e3, e4, e5⟩ := hy
  have e4 : V.int (i : Nat) = y := Option.some.inj e4
  obtain ⟨db, h2, q2⟩ := a5.getV e5
  have hi' : i < ((l.length : Nat) : Int).toNat := by
    have := (List.getElem?_eq_some_iff.mp h2).1
    simpa using this
  exact ⟨_, pairUp_get (rangeD_get hi') h2, .inr ⟨T, y, z, _, db, e1, e2, e3, rfl, e4 ▸ .int _, q2⟩⟩
/-! ### sets -/
theorem keysOf_rp {K : PySem.W.Frag} {G : Hp} : ∀ {l : List D} {ks : List (Int ⊕ Str)} {xs : List V}, keysOf l = some ks → Rps K G xs l → xs = kVs ks
  | [], ks, _, h, .nil => by
    have : [] = ks := Option.some.inj h
    rw [← this]; rfl
  | d :: l, ks, v :: xs, h, .cons r t => by
    unfold keysOf at h
    cases hk : keyOf d with
    | none => rw [hk] at h; cases h
    | some k =>
      rw [hk] at h
      cases hl : keysOf l with
      | none => rw [hl] at h; cases h
      | some ks' =>
        rw [hl] at h
        have h : some (k :: ks') = some ks := h
        cases h
        have ih := keysOf_rp hl t
        have e : v = kV k := by
          cases d with
          | int i => cases hk; exact r.int_inv
          | str x => cases hk; exact (r.str_inv).1
          | _ => cases hk
        rw [e, ih]
        rfl
theorem dedK_eq (ks : List (Int ⊕ Str)) : dedK ks = setOfKeys ks := by
  unfold dedK setOfKeys
  have : (fun (l : List (Int ⊕ Str)) (k : Int ⊕ Str) => if l.any (fun y => decide (y = k)) then l else l ++ [k]) = addM := by
    funext l k
    unfold addM
    by_cases h : k ∈ l
    · rw [if_pos h, if_pos (by simpa using h)]
    · rw [if_neg h, if_neg (by simpa using h)]
  rw [this]
/-- a list's or a tuple's items -/
theorem RV.seq {B : Bs} {own : Nat → Option Addr} {ρ : Rho} {k : Nat} {σ : L2.St} {H H' : Hp} {kd : Kd} {v : V} {d : D} {l : List D} (r : ER p.K B own ρ k σ H') (q : RV p.K B own H H' kd v d) (h : seqOf d = some l) : ∃ a xs, v = .ref a ∧ (SqL p.K H' a xs ∨ SqT p.K H' a xs) ∧ Rps p.K (Hd H' (hid B own)) xs l := by
  unfold seqOf at h
  split at h
  · cases h
    obtain ⟨a, xs, e, h1, _, h2⟩ := q.list
    exact ⟨a, xs, e, .inl h1, h2⟩
  · cases h
    obtain ⟨a, xs, e, h1, _, h2, _⟩ := q.tup
    exact ⟨a, xs, e, .inr h1, h2⟩
  · cases h
theorem pe_set (G : Good p c C g X W) {a : E} {x : Expr} {p1 p2 : Pos} (h1 : C.bl.contains ("set" : Str) = true) (h2 : glB X.env.scope "set" = true) (ha : PE X x (tE p W g a)) (hx : plainX x = true) : PE X (.Call (.Name "set" p1) [x] [] p2) (tCB (rSetK X.K X.prog X.w) (tCons (tE p W g a) tNil)) :=
  pe_callTy (cr_setK G.calm) (gl_of h2) (bl_none G h1) (by decide +kernel) (pa_cons ha pa_nil (plain_star hx)) (by decide) (by decide) (plain_star hx) rfl
theorem c_lset (G : Good p c C g X W) {a : E} {x : Expr} {p1 p2 p3 : Pos} (h1 : C.bl.contains ("set" : Str) = true) (h2 : glB X.env.scope "set" = true) (h3 : C.bl.contains ("len" : Str) = true) (h4 : glB X.env.scope "len" = true) (ha : PE X x (tE p W g a)) (hx : plainX x = true) :
    PE X (.Call (.Name "len" p1) [.Call (.Name "set" p2) [x] [] p3] [] pos) (tE p W g (.lset a)) := by
  refine (pe_callB cr_lenM (gl_of h4) (bl_none G h3) (by decide +kernel) (pa_cons (pe_set G h1 h2 ha hx) pa_nil) (by decide) (by decide)).imp fun σ H Q ⟨B, own, ρ, k, er, f⟩ => ?_
  unfold ev at f
  refine tE.bind (okβ := fun H r => OK p B own ρ σ H .pl Q r) er f (fun H1 k1 r s er1 h => h.later s er er1) fun d k1 v H1 er1 s1 q1 f => ?_
  obtain ⟨z, hz, f⟩ := FinG.of f
  unfold lsetD at hz
  cases hs : seqOf d with
  | none => rw [hs] at hz; cases hz
  | some l =>
    rw [hs] at hz
    have hz : ((keysOf l).bind fun ks => if decide (ks.length < 64) then some (PyData.int (dedK ks).length) else none) = some z := hz
    cases hk : keysOf l with
    | none => rw [hk] at hz; cases hz
    | some ks =>
      rw [hk] at hz
      have hz : (if decide (ks.length < 64) then some (PyData.int (dedK ks).length) else none) = some z := hz
      split at hz
      · rename_i few
        cases hz
        obtain ⟨a1, xs, rfl, h5, h6⟩ := RV.seq er1 q1 hs
        have e := keysOf_rp hk h6
        subst e
        refine ⟨a1, ks, rfl, by rw [G.K]; exact h5, of_decide_eq_true few, fun b hb => ?_⟩
        refine ⟨b, setOfKeys ks, rfl, upd_same, ?_⟩
        rw [← dedK_eq]
        exact f _ _ (er1.alloc hb) (Stp.same (same_new hb)) (.int _)
      · cases hz
theorem strs_keys {xs : List Str} : kVs (xs.map (Sum.inr : Str → Int ⊕ Str)) = xs.map V.str := by
  unfold kVs
  rw [List.map_map]
  rfl
theorem set_strs {xs : List Str} : setOfKeys (xs.map Sum.inr) = (dedS xs).map Sum.inr := by
  rw [← dedK_eq]
  unfold dedK dedS
  have : ∀ (xs l : List Str), (xs.map (Sum.inr : Str → Int ⊕ Str)).foldl (fun (l : List (Int ⊕ Str)) (k : Int ⊕ Str) => if l.any (fun y => decide (y = k)) then l else l ++ [k]) (l.map Sum.inr) = (xs.foldl (fun l x => if (l.any fun y => decide (y = x)) then l else l ++ [x]) l).map Sum.inr := by
    intro xs
    induction xs with
    | nil => intro l; rfl
    | cons x xs ih =>
      intro l
      rw [List.map_cons, List.foldl_cons, List.foldl_cons]
      have e : ((l.map (Sum.inr : Str → Int ⊕ Str)).any fun y => decide (y = Sum.inr x)) = (l.any fun y => decide (y = x)) := by
        rw [List.any_map]
        congr 1
        funext y
        simp
      rw [e]
      split
      · exact ih l
      · have := ih (l ++ [x])
        rw [List.map_append] at this
        exact this
  exact this xs []
theorem keysOf_strs : ∀ xs : List Str, keysOf (xs.map PyData.str) = some (xs.map Sum.inr)
  | [] => rfl
  | x :: xs => by
    show (keyOf (.str x) >>= fun i => keysOf (xs.map PyData.str) >>= fun r => pure (i :: r)) = _
    rw [keysOf_strs xs]
    rfl
theorem c_sset (G : Good p c C g X W) {a : E} {x : Expr} {p1 p2 p3 : Pos} (h1 : C.bl.contains ("set" : Str) = true) (h2 : glB X.env.scope "set" = true) (h3 : C.bl.contains ("sorted" : Str) = true) (h4 : glB X.env.scope "sorted" = true) (ha : PE X x (tE p W g a)) (hx : plainX x = true) :
    PE X (.Call (.Name "sorted" p1) [.Call (.Name "set" p2) [x] [] p3] [] pos) (tE p W g (.sset a)) := by
  refine (pe_callB (cr_sortedM G.calm) (gl_of h4) (bl_none G h3) (by decide +kernel) (pa_cons (pe_set G h1 h2 ha hx) pa_nil) (by decide) (by decide)).imp fun σ H Q ⟨B, own, ρ, k, er, f⟩ => ?_
  unfold ev at f
  refine tE.bind (okβ := fun H r => OK p B own ρ σ H .fr Q r) er f (fun H1 k1 r s er1 h => h.later s er er1) fun d k1 v H1 er1 s1 q1 f => ?_
  obtain ⟨l, hs, f⟩ := FinG.of f
  obtain ⟨xs, hk, f⟩ := FinG.of f
  by_cases few : xs.length < 64
  · have hF : FinG (fun r => OK p B own ρ σ H1 .fr Q r) (XP p W B own ρ σ H1) (if decide (xs.length < 64) = true then R.ok (PyData.list ((sortStr (dedS xs)).map PyData.str), k1) else .no) := f
    rw [if_pos (decide_eq_true few)] at hF
    obtain ⟨a1, vs, rfl, h5, h6⟩ := RV.seq er1 q1 hs
    have e1 := strsOf_eq hk
    subst e1
    have hok : ∀ x ∈ xs, strOk x := fun x hx => by
      obtain ⟨i, hi⟩ := List.mem_iff_getElem?.mp hx
      obtain ⟨u, _, q⟩ := h6.get (i := i) (d := .str x) (by rw [List.getElem?_map, hi]; rfl)
      exact (q.str_inv).2
    have e2 := keysOf_strs xs
    have e := keysOf_rp e2 h6
    subst e
    refine ⟨a1, xs.map Sum.inr, rfl, by rw [G.K]; exact h5, by rw [List.length_map]; exact few, fun b hb => ?_⟩
    have hd : (dedS xs).length ≤ xs.length := by
      have := setOfKeys_len (ks := xs.map Sum.inr)
      rw [set_strs, List.length_map, List.length_map] at this
      exact this
    refine ⟨b, dedS xs, rfl, by rw [upd_same, set_strs], by omega, fun q hq => ?_⟩
    have hb1 := er1.alloc (o := SetMO X.prog X.w b (setOfKeys (xs.map Sum.inr))) hb
    have hlen : ((sortStr (dedS xs)).map V.str).length ≤ sizeLine := by
      rw [List.length_map, sortStr_perm.length_eq, sizeLine_eq]
      omega
    have rv := RV.from (Stp.same (same_new hb)) er1 hb1 (new_fr hb1 hq hlen (strs_rps fun y hy => hok y (dedS_sub (sortStr_perm.mem_iff.mp hy))))
    exact hF _ _ (hb1.alloc hq) ((Stp.same (same_new hb)).trans (Stp.same (same_new hq))) rv
  · have f : FinG (fun r => OK p B own ρ σ H1 .fr Q r) (XP p W B own ρ σ H1) (if decide (xs.length < 64) = true then R.ok (PyData.list ((sortStr (dedS xs)).map PyData.str), k1) else .no) := f
    rw [if_neg (by simpa using few)] at f
    exact f.elim
end
end Y

namespace Y
open PySem PySem.W PySem.Spec PyProof.Rows L2
theorem dpAll_get {K : PySem.W.Frag} {H : Hp} : ∀ {vs : List V} {ds : List D} {i : Nat} {v : V}, DpAll K H vs ds → vs[i]? = some v → ∃ d, ds[i]? = some d ∧ Dp K H v d
  | _, _, 0, _, .cons a _, e => by
    cases (Option.some.inj e : _ = _)
    exact ⟨_, rfl, a⟩
  | _, _, i + 1, _, .cons _ b, e => by
    obtain ⟨d, h1, h2⟩ := dpAll_get (i := i) b (by simpa using e)
    exact ⟨d, by simpa using h1, h2⟩
section
variable {X : Cx}
theorem cr_minD (hc : X.calm = true) (hu : X.A.units + 65 < cLine) : CallR X (.builtin "min") (rMinD X.K) := by
  intro pins s σ H vs us Q I r h
  obtain ⟨a, xs, d, ds, rfl, hl, hd, hal, hdep, q⟩ := h
  rw [Vals.ref1 r]
  obtain ⟨its, rv, pl, hz⟩ := I.list hl
  obtain ⟨as, ra⟩ := Dp.readsAll I (d :: ds) xs its hd rv
  refine min_list_data (I.ok.hd hc) pl.isList (by simpa using ra) hal (by omega) fun i v h' tk bs hv rd hk => ?_
  have hv' : its[i]? = some v := by simpa using hv
  have hi : i < xs.length := by rw [rv.length]; exact (List.getElem?_eq_some_iff.mp hv').1
  obtain ⟨u, hu', ru⟩ := rv.get (List.getElem?_eq_getElem hi)
  rw [hu'] at hv'
  cases hv'
  obtain ⟨d', hd', dp⟩ := dpAll_get hd (List.getElem?_eq_getElem hi)
  obtain ⟨cs, rc⟩ := Dp.reads I _ _ _ dp ru
  have e := (reads_det (fun b o z _ => hk b o z) rc rd).1
  refine ⟨xs[i], H, I.kept (t' := tk) fun b o z => hk b o z, ru, q i _ (List.getElem?_eq_getElem hi) ?_⟩
  rw [e]
  exact hd'
end
variable [TownS]
section
variable {p : Par} {c : Cnt} {C : Ck} {g : G} {X : Cx} {W : WX} {pos : Pos}
theorem dOk_list_depth {l : List D} (h : dOk (.list l) = true) : PyData.depthAll l ≤ 63 := by
  unfold dOk at h
  rw [Bool.and_eq_true] at h
  have := of_decide_eq_true h.2
  rw [PyData.depth] at this
  omega
theorem c_mind (G : Good p c C g X W) {a : E} {x : Expr} {p1 : Pos} (h1 : C.bl.contains ("min" : Str) = true) (h2 : glB X.env.scope "min" = true) (ha : PE X x (tE p W g a)) (hx : plainX x = true) : PE X (.Call (.Name "min" p1) [x] [] pos) (tE p W g (.mind a)) := by
  refine (pe_callB (cr_minD G.calm G.u65) (gl_of h2) (bl_none G h1) (by decide +kernel) (pa_cons ha pa_nil (plain_star hx)) (by decide) (by decide) (plain_star hx) rfl).imp fun σ H Q ⟨B, own, ρ, k, er, f⟩ => ?_
  unfold ev at f
  refine tE.bind (okβ := fun H r => OK p B own ρ σ H .pl Q r) er f (fun H1 k1 r s er1 h => h.later s er er1) fun d k1 v H1 er1 s1 q1 f => ?_
  obtain ⟨z, hz, f⟩ := FinG.of f
  unfold minOf at hz
  split at hz
  · rename_i e l
    split at hz
    · rename_i hok
      cases hz
      unfold alikeOk at hok
      rw [Bool.and_eq_true, Bool.and_eq_true] at hok
      obtain ⟨⟨o1, o2⟩, o3⟩ := hok
      obtain ⟨a1, xs, rfl, a2, a3, a4⟩ := q1.list
      have hnd : noDs (e :: l) = true := by
        unfold dOk at o3
        rw [Bool.and_eq_true, noD] at o3
        exact o3.1
      rw [G.K]
      refine ⟨a1, xs, e, l, rfl, a2, ((a4.mono Hd.le).dp hnd).1, ⟨fun y hy z hz => ?_, fun y hy e => ?_⟩, dOk_list_depth o3, fun i v hi hm => ?_⟩
      · exact List.all_eq_true.mp (List.all_eq_true.mp o1 y hy) z hz
      · have := List.all_eq_true.mp o2 y hy
        rw [e] at this
        cases this
      · obtain ⟨dd, h3, h4⟩ := a4.getV hi
        rw [h3] at hm
        cases hm
        exact f _ _ er1 Stp.refl h4
    · cases hz
  · cases hz
theorem c_lstd (G : Good p c C g X W) {a : E} {x : Expr} {p1 : Pos} (h1 : C.bl.contains ("list" : Str) = true) (h2 : glB X.env.scope "list" = true) (ha : PE X x (tE p W g a)) (hx : plainX x = true) : PE X (.Call (.Name "list" p1) [x] [] pos) (tE p W g (.lstd a)) := by
  refine (pe_callTy (call_listD G.calm) (gl_of h2) (bl_none G h1) (by decide +kernel) (pa_cons ha pa_nil (plain_star hx)) (by decide) (by decide) (plain_star hx) rfl).imp fun σ H Q ⟨B, own, ρ, k, er, f⟩ => ?_
  unfold ev at f
  refine tE.bind (okβ := fun H r => OK p B own ρ σ H .fr Q r) er f (fun H1 k1 r s er1 h => h.later s er er1) fun d k1 v H1 er1 s1 q1 f => ?_
  obtain ⟨z, hz, f⟩ := FinG.of f
  unfold lstdD at hz
  split at hz
  · rename_i kvs
    obtain ⟨a1, rfl, dc⟩ := q1.dict
    rcases dc with ⟨e, ks, ds, b1, b2, b3, b4, b5, b6⟩ | ⟨e, _⟩
    · rw [if_neg (by rw [e]; decide)] at hz
      cases hz
      refine ⟨a1, ks, rfl, .of b1, fun q hq => ?_⟩
      have hl : (ks.map fun kv => kV kv.1).length ≤ sizeLine := by rw [List.length_map]; exact b2
      have hds : ds.length = ks.length := by rw [← b5.length, List.length_map]
      have rp : Rps p.K (Hd H1 (hid B own)) (ks.map fun kv => kV kv.1) (kvs.map (·.1)) := by
        have e1 : kvs.map (·.1) = ks.map fun k => kD k.1 := by
          rw [b6, List.map_fst_zip]
          rw [List.length_map, hds]
          exact Nat.le_refl _
        rw [e1]
        clear e1 b6 hds b5 b4 b2 b1 hl f e
        induction ks with
        | nil => exact .nil
        | cons k ks ih =>
          refine .cons ?_ (ih fun z hz => b3 z (List.mem_cons_of_mem _ hz))
          have hk := b3 k (List.mem_cons_self ..)
          obtain ⟨key, val⟩ := k
          cases key with
          | inl i => exact .int i
          | inr y => exact .str y hk
      exact f _ _ (er1.alloc hq) (Stp.same (same_new hq)) (new_fr er1 hq hl rp)
    · rw [if_pos e] at hz
      cases hz
  · cases hz
theorem repl_rps {K : PySem.W.Frag} {G : Hp} {xs : List V} {l : List D} (r : Rps K G xs l) : ∀ n : Nat, Rps K G (List.replicate n xs).flatten (List.replicate n l).flatten
  | 0 => .nil
  | n + 1 => by
    rw [List.replicate_succ, List.replicate_succ, List.flatten_cons, List.flatten_cons]
    exact r.append (repl_rps r n)
theorem flat_len {α : Type} {xs : List α} : ∀ n : Nat, (List.replicate n xs).flatten.length = n * xs.length
  | 0 => by simp
  | n + 1 => by rw [List.replicate_succ, List.flatten_cons, List.length_append, flat_len n, Nat.add_mul, Nat.one_mul, Nat.add_comm]
theorem replD_inv {x y z : D} (h : replD x y = some z) : ∃ l n, x = .list l ∧ y = .int n ∧ 0 ≤ n ∧ n ≤ 1000 ∧ l.length ≤ 1000 ∧ z = .list (List.replicate n.toNat l).flatten := by
  cases x with
  | list l =>
    cases y with
    | int n =>
      unfold replD at h
      by_cases hc : (decide (0 ≤ n ∧ n ≤ 1000) && decide (l.length ≤ 1000)) = true
      · simp only [hc, if_true] at h
        cases h
        rw [Bool.and_eq_true] at hc
        have n1 := of_decide_eq_true hc.1
        exact ⟨l, n, rfl, rfl, n1.1, n1.2, of_decide_eq_true hc.2, rfl⟩
      · simp only [hc] at h
        cases h
    | _ => cases h
  | _ => cases h
theorem c_repL (G : Good p c C g X W) {a e : E} {x y : Expr} (ha : PE X x (tE p W g a)) (he : PE X y (tE p W g e)) : PE X (.BinOp x .Mult y pos) (tE p W g (.repL a e)) :=
  (pe_op op_rep ha he).imp fun σ H Q ⟨B, own, ρ, k, er, f⟩ => by
    unfold ev at f
    by_cases hk : kdOf ρ a = .fr
    · rw [if_neg (fun z => z hk)] at f
      refine tE.bind (okβ := fun H r => OK p B own ρ σ H .fr Q r) er f (fun H1 k1 r s er1 h => h.later s er er1) fun d k1 v H1 er1 s1 q1 f => ?_
      refine tE.bind (okβ := fun H r => OK p B own ρ σ H .fr Q r) er1 f (fun H2 k2 r s er2 h => h.later s er1 er2) fun e' k2 u H2 er2 s2 q2 f => ?_
      obtain ⟨z, hz, f⟩ := FinG.of f
      have q3 := q1.later er1 s2
      rw [hk] at q3
      obtain ⟨b, rfl, hb, nb, hv⟩ := q3
      obtain ⟨l, n, e1, e2, n0, n1, n2, e3⟩ := replD_inv hz
      subst e1 e2 e3
      rcases hv with ⟨l', e1, vs, h1, h2, h3⟩ | ⟨l', e1, _⟩
      · cases e1
        have hlv : vs.length = l.length := h3.length
        have hm : vs.length * n.toNat ≤ 1000 * 1000 := Nat.mul_le_mul (by omega) (by omega)
        have p63 : (2 : Int) ^ 63 = 9223372036854775808 := by decide
        refine ⟨b, n, vs, rfl, (q2.weak er2).int_inv, h1, by omega, by omega, by rw [sizeLine_eq]; omega, fun q hq => ?_⟩
        have hl : (List.replicate n.toNat vs).flatten.length ≤ sizeLine := by
          rw [flat_len, sizeLine_eq, Nat.mul_comm]
          omega
        exact f _ _ (er2.alloc hq) (Stp.same (same_new hq)) (new_fr er2 hq hl (repl_rps (h3.mono (Hd.less fun a h => .inl h)) _))
      · cases e1
    · rw [if_pos hk] at f
      exact f.elim
end
end Y

namespace Y
open PySem PySem.W PySem.Spec PyProof.Rows L2
variable [TownS]
/-- what is shown of an expression: as a value, as a test, in a row of ands and ors -/
structure Sound (p : Par) (g : G) (X : Cx) (W : WX) (e : E) (x : Expr) : Prop where
  pe : PE X x (tE p W g e)
  pt : PT X x (tT p W g e)
  pw : ∀ op vs pos, x = .BoolOp op vs pos → PW X x (tT p W g e)
def Each (p : Par) (g : G) (X : Cx) (W : WX) : Es → List Expr → Prop
  | .cons e es, x :: xs => PE X x (tE p W g e) ∧ Each p g X W es xs
  | _, _ => True
section
variable {p : Par} {c : Cnt} {C : Ck} {g : G}
theorem c_pknil {X : Cx} {W : WX} (G : Good p c C g X W) : PK X [] (tA p W g .nil) := ⟨fun pos pins s σ H Q I ⟨B, own, ρ, k, er, f⟩ => by
  unfold evs at f
  exact pk_nil.run pos pins s σ H Q I (f [] H er Stp.refl trivial)⟩
theorem c_pkcons {X : Cx} {W : WX} (G : Good p c C g X W) {e : E} {es : Es} {kw : Keyword} {kws : List Keyword} (h : PE X kw.value (tE p W g e)) (hs : PK X kws (tA p W g es)) : PK X (kw :: kws) (tA p W g (.cons e es)) := ⟨fun pos pins s σ H Q I ⟨B, own, ρ, k, er, f⟩ => by
  obtain ⟨ka, kv, kp⟩ := kw
  refine (pk_cons (nm := ka) (kpos := kp) h hs).run pos pins s σ H Q I ?_
  unfold evs at f
  refine tE.bind (okβ := fun H r => OKS p B own ρ σ H (.cons e es) Q r) er f (fun H1 k1 r s _ h => h.later s) fun d k1 v H1 er1 s1 q1 f => ?_
  refine tA.bind (okβ := fun H r => OKS p B own ρ σ H (.cons e es) Q r) er1 f (fun H1 k1 r s _ h => h.later s) fun ds k2 vs H2 er2 s2 q2 f => ?_
  exact f (v :: vs) H2 er2 Stp.refl ⟨⟨_, q1.later er1 s2⟩, q2⟩⟩
theorem sound_of {X : Cx} {W : WX} (G : Good p c C g X W) {e : E} {x : Expr} (h : PE X x (tE p W g e)) (he : ∀ whole, isTrue x X.env whole = (do let v ← whole; standAt x.pos; holding [v] (truthy v))) (hn : ∀ op vs pos, x ≠ .BoolOp op vs pos) : Sound p g X W e x :=
  ⟨h, pt_of G h he, fun op vs pos e => (hn op vs pos e).elim⟩
mutual
theorem ev_sound : ∀ (e : E) {X : Cx} {W : WX} {x : Expr}, Good p c C g X W → ck C X.env.scope e x = true → Sound p g X W e x
  | .omit, X, W, x, G, h => ⟨⟨fun pins s σ H Q I ⟨_, _, _, _, _, f⟩ => by unfold ev at f; exact f.elim⟩, ⟨fun pins s σ H Q I ⟨_, _, _, _, _, f⟩ => by unfold ev at f; exact f.elim⟩, fun op vs pos e => ⟨fun w pins s σ H Q I ⟨_, _, _, _, _, f⟩ => by unfold ev at f; exact f.elim⟩⟩
  | .var i, X, W, x, G, h => by
    cases x with
    | Name y pos =>
      rw [ck, Bool.and_eq_true, Bool.and_eq_true] at h
      exact sound_of G (c_var G (of_decide_eq_true h.1.1) h.1.2 h.2) (fun _ => rfl) (fun _ _ _ z => nomatch z)
    | _ => simp [ck] at h
  | .cst d, X, W, x, G, h => by
    cases x with
    | Constant k j pos =>
      rw [ck] at h
      exact sound_of G (c_cst G h) (fun _ => rfl) (fun _ _ _ z => nomatch z)
    | _ => simp [ck] at h
  | .glb j, X, W, x, G, h => by
    cases x with
    | Name y pos =>
      rw [ck, Bool.and_eq_true, Bool.and_eq_true] at h
      exact sound_of G (c_glb G (of_decide_eq_true h.1.1) h.1.2 h.2) (fun _ => rfl) (fun _ _ _ z => nomatch z)
    | _ => simp [ck] at h
  | .tup es, X, W, x, G, h => by
    cases x with
    | Tuple l k pos =>
      rw [ck, Bool.and_eq_true] at h
      exact sound_of G (c_tup G (evs_sound es G h.1).1 h.2 fun ds k g ρ r he => by rw [cks_len h.1]; exact evs_len he) (fun _ => rfl) (fun _ _ _ z => nomatch z)
    | _ => simp [ck] at h
  | .lst es, X, W, x, G, h => by
    cases x with
    | List l pos =>
      rw [ck, Bool.and_eq_true] at h
      exact sound_of G (c_lst G (evs_sound es G h.1).1 h.2 fun ds k g ρ r he => by rw [cks_len h.1]; exact evs_len he) (fun _ => rfl) (fun _ _ _ z => nomatch z)
    | _ => simp [ck] at h
  | .dct es, X, W, x, G, h => by
    cases x with
    | Dict ks vs pos =>
      simp only [ck, Bool.and_eq_true] at h
      obtain ⟨⟨h1, h2⟩, h3⟩ := h
      obtain ⟨g1, g2, g3, g4⟩ := evd_sound es (pos := pos) G h1
      refine sound_of G (c_dct G g1 g2 g3 (fun e => ?_) (of_decide_eq_true h3) g4) (fun _ => rfl) (fun _ _ _ z => nomatch z)
      rw [e] at h2
      simp at h2
    | _ => simp [ck] at h
  | .bin o a b, X, W, x, G, h => by
    cases x with
    | BinOp l op r pos =>
      rw [ck, Bool.and_eq_true, Bool.and_eq_true] at h
      have e := of_decide_eq_true h.1.1
      subst e
      exact sound_of G (c_bin G (ev_sound a G h.1.2).pe (ev_sound b G h.2).pe) (fun _ => rfl) (fun _ _ _ z => nomatch z)
    | _ => simp [ck] at h
  | .cmp o a b, X, W, x, G, h => by
    cases x with
    | Compare l ops rs pos =>
      match ops, rs, h with
      | [op], [r], h =>
        rw [ck, Bool.and_eq_true, Bool.and_eq_true] at h
        have e := of_decide_eq_true h.1.1
        subst e
        have ha := (ev_sound a G h.1.2).pe
        have hb := (ev_sound b G h.2).pe
        exact ⟨c_cmp G ha hb (ck_plain h.2), c_cmpT G ha hb (ck_plain h.2), fun _ _ _ z => nomatch z⟩
      | [], _, h => simp [ck] at h
      | [_], [], h => simp [ck] at h
      | [_], _ :: _ :: _, h => simp [ck] at h
      | _ :: _ :: _, _, h => simp [ck] at h
    | _ => simp [ck] at h
  | .chn o o' a b d, X, W, x, G, h => by
    cases x with
    | Compare l ops rs pos =>
      match ops, rs, h with
      | [op, op'], [r, q], h =>
        simp only [ck, Bool.and_eq_true] at h
        obtain ⟨⟨⟨⟨e1, e2⟩, h1⟩, h2⟩, h3⟩ := h
        have e1 := of_decide_eq_true e1
        have e2 := of_decide_eq_true e2
        subst e1 e2
        have ha := (ev_sound a G h1).pe
        have hb := (ev_sound b G h2).pe
        have hd := (ev_sound d G h3).pe
        exact ⟨c_chn G ha hb hd (ck_plain h3), c_chnT G ha hb hd (ck_plain h3), fun _ _ _ z => nomatch z⟩
      | [], _, h => simp [ck] at h
      | [_], _, h => simp [ck] at h
      | [_, _], [], h => simp [ck] at h
      | [_, _], [_], h => simp [ck] at h
      | [_, _], _ :: _ :: _ :: _, h => simp [ck] at h
      | _ :: _ :: _ :: _, _, h => simp [ck] at h
    | _ => simp [ck] at h
  | .nt a, X, W, x, G, h => by
    cases x with
    | UnaryOp op y pos =>
      cases op with
      | Not =>
        rw [ck] at h
        have ha := ev_sound a G h
        exact ⟨c_nt G ha.pe, c_ntT G ha.pt, fun _ _ _ z => nomatch z⟩
      | _ => simp [ck] at h
    | _ => simp [ck] at h
  | .neg a, X, W, x, G, h => by
    cases x with
    | UnaryOp op y pos =>
      cases op with
      | USub =>
        rw [ck] at h
        exact sound_of G (c_neg G (ev_sound a G h).pe) (fun _ => rfl) (fun _ _ _ z => nomatch z)
      | _ => simp [ck] at h
    | _ => simp [ck] at h
  | .bop isOr a b, X, W, x, G, h => by
    cases x with
    | BoolOp op vs pos =>
      match vs, h with
      | y :: z :: r, h =>
        rw [ck, Bool.and_eq_true, Bool.and_eq_true] at h
        have ho := of_decide_eq_true h.1.1
        have ha := ev_sound a G h.1.2
        have hb0 := ev_sound b G h.2
        have hb : PE X (.BoolOp op (z :: r) pos) (tE p W g b) ∧ PW X (.BoolOp op (z :: r) pos) (tT p W g b) := by
          cases r with
          | nil => exact ⟨c_one hb0.pe, c_oneT hb0.pt⟩
          | cons q r => exact ⟨hb0.pe, hb0.pw _ _ _ rfl⟩
        have hw := c_bopT G ho ha.pt hb.2
        exact ⟨c_bop G ho ha.pe hb.1, hw.pt, fun _ _ _ _ => hw⟩
      | [], h => simp [ck] at h
      | [_], h => simp [ck] at h
    | _ => simp [ck] at h
  | .ite d a b, X, W, x, G, h => by
    cases x with
    | IfExp t y z pos =>
      rw [ck, Bool.and_eq_true, Bool.and_eq_true] at h
      have hd := ev_sound d G h.1.1
      have ha := ev_sound a G h.1.2
      have hb := ev_sound b G h.2
      exact ⟨c_ite G hd.pt ha.pe hb.pe, c_iteT G hd.pt ha.pt hb.pt, fun _ _ _ z => nomatch z⟩
    | _ => simp [ck] at h
  | .ix a i, X, W, x, G, h => by
    cases x with
    | Subscript y z pos =>
      rw [ck, Bool.and_eq_true] at h
      exact sound_of G (c_ix G (ev_sound a G h.1).pe (ev_sound i G h.2).pe (ck_plain h.2)) (fun _ => rfl) (fun _ _ _ z => nomatch z)
    | _ => simp [ck] at h
  | .sl a lo hi, X, W, x, G, h => by
    cases x with
    | Subscript y z pos =>
      rw [ck, Bool.and_eq_true] at h
      obtain ⟨h1, h2⟩ := h
      cases hz : slOf z with
      | none => rw [hz] at h2; cases h2
      | some lu =>
        obtain ⟨l, u⟩ := lu
        rw [hz] at h2
        obtain ⟨p2, rfl⟩ := slOf_inv hz
        simp only [Bool.and_eq_true] at h2
        obtain ⟨⟨⟨h2, h3⟩, h4⟩, h5⟩ := h2
        have h2 := of_decide_eq_true h2
        have h3 := of_decide_eq_true h3
        refine sound_of G (c_sl G (ev_sound a G h1).pe (fun y' e => ?_) (fun y' e => ?_) h2 h3) (fun _ => rfl) (fun _ _ _ z => nomatch z)
        · subst e
          exact (ev_sound lo G h4).pe
        · subst e
          exact (ev_sound hi G h5).pe
    | _ => simp [ck] at h
  | .call j es ks, X, W, x, G, h => by
    cases x with
    | Call f args kws pos =>
      cases f with
      | Name y p1 =>
        simp only [ck, Bool.and_eq_true] at h
        obtain ⟨⟨⟨⟨⟨⟨h1, h2⟩, h3⟩, h4⟩, h5⟩, h6⟩, h7⟩ := h
        cases hs : C.cs j with
        | none => rw [hs] at h1; cases h1
        | some st =>
          rw [hs] at h1
          simp only [Bool.and_eq_true] at h1
          have e := of_decide_eq_true h1.1.1
          subst e
          exact sound_of G (c_call G hs (of_decide_eq_true h1.1.2) (of_decide_eq_true h1.2) h2 h3 h4 h5 (evs_sound es G h4).1 ((evs_sound ks G h5).2 kws rfl)) (fun _ => rfl) (fun _ _ _ z => nomatch z)
      | _ => simp [ck] at h
    | _ => simp [ck] at h
  | .callT j es, X, W, x, G, h => by
    cases x with
    | Call f args kws pos =>
      match args, kws, h with
      | s :: t :: args, [], h =>
        simp only [ck, Bool.and_eq_true] at h
        obtain ⟨⟨⟨⟨⟨⟨h1, h2⟩, h3⟩, h4⟩, h5⟩, h6⟩, h7⟩ := h
        obtain ⟨nm, p1, rfl, e1⟩ := isNm_inv h1
        obtain ⟨sn, p2, rfl, e2⟩ := isNm_inv h3
        obtain ⟨tn, p3, rfl, e3⟩ := isNm_inv h5
        rw [nmG, Bool.and_eq_true] at h2
        rw [nmV, Bool.and_eq_true] at h4 h6
        exact sound_of G (c_callT G e1 h2.1 h2.2 e2 h4.1 h4.2 e3 h6.1 h6.2 h7 (evs_sound es G h7).1) (fun _ => rfl) (fun _ _ _ z => nomatch z)
      | [], _, h => simp [ck] at h
      | [_], _, h => simp [ck] at h
      | _ :: _ :: _, _ :: _, h => simp [ck] at h
    | _ => simp [ck] at h
  | .bi b a, X, W, x, G, h => by
    cases x with
    | Call f args kws pos =>
      match args, kws, h with
      | [z], [], h =>
        simp only [ck, Bool.and_eq_true] at h
        obtain ⟨h0, h5⟩ := h
        cases f with
        | Name y p1 =>
          simp only [biE, Bool.and_eq_true] at h0
          obtain ⟨⟨⟨h1, h2⟩, h3⟩, h4⟩ := h0
          exact sound_of G (c_bi G h1 h2 h3 h4 (ev_sound a G h5).pe (ck_plain h5)) (fun _ => rfl) (fun _ _ _ z => nomatch z)
        | _ => cases h0
      | [], _, h => simp [ck] at h
      | [_], _ :: _, h => simp [ck] at h
      | _ :: _ :: _, _, h => simp [ck] at h
    | _ => simp [ck] at h
  | .mt m a es, X, W, x, G, h => by
    cases x with
    | Call f args kws pos =>
      match kws, h with
      | [], h =>
        rw [ck, Bool.and_eq_true] at h
        obtain ⟨h0, h5⟩ := h
        cases hf : atOf f with
        | none => rw [hf] at h0; cases h0
        | some on =>
          obtain ⟨o, n, apos⟩ := on
          rw [hf] at h0
          have e := atOf_inv hf
          subst e
          simp only [Bool.and_eq_true] at h0
          obtain ⟨⟨⟨h1, h2⟩, h3⟩, h4⟩ := h0
          cases m with
          | get =>
            rw [mtCk, Bool.and_eq_true] at h1
            have e := of_decide_eq_true h1.1
            subst e
            have hn : args.length = 1 ∨ args.length = 2 := by simpa using h1.2
            have hl := evs_each es G h5
            refine sound_of G (c_get G h4 (of_decide_eq_true h2) (ev_sound a G h3).pe h5 hn (fun e es' x xs e1 e2 => ?_) (fun e e2 es' x y xs e1 e2 => ?_)) (fun _ => rfl) (fun _ _ _ z => nomatch z)
            · subst e1 e2
              exact hl.1
            · subst e1 e2
              exact hl.2.1
          | _ => cases h1
      | _ :: _, h => simp [ck] at h
    | _ => simp [ck] at h
  | .comp own tg it d elt, X, W, x, G, h => by
    cases x with
    | ListComp e gs scope pos =>
      match gs, h with
      | [q], h =>
        obtain ⟨t, i, ifs, as⟩ := q
        simp only [ck, Bool.and_eq_true] at h
        obtain ⟨⟨⟨⟨⟨⟨⟨⟨h0, h1⟩, h2⟩, h3⟩, h4⟩, h7⟩, h8⟩, h5⟩, h6⟩ := h
        have e0 := of_decide_eq_true h0
        subst e0
        refine sound_of G (c_comp G h1 h2 h3 (evi_sound it G h4 h7) h8 (fun s H C0 cl fp => ?_) ?_ fun s H C0 cl fp => (ev_sound elt (G.blk s H scope _ fp) h6).pe) (fun _ => rfl) (fun _ _ _ z => nomatch z)
        · match ifs, h5 with
          | [], _ => exact pts_nil
          | [y], h5 => exact pts_one (ev_sound d (G.blk s H scope _ fp) h5).pt
          | _ :: _ :: _, h5 => cases h5
        · intro e
          subst e
          exact h5
      | [], h => simp [ck] at h
      | _ :: _ :: _, h => simp [ck] at h
    | _ => simp [ck] at h
  | .comp2 own tg it d own1 tg1 it1 d1 elt, X, W, x, G, h => by
    cases x with
    | ListComp e gs scope pos =>
      match gs, h with
      | [q, q1], h =>
        obtain ⟨t, i, ifs, as⟩ := q
        obtain ⟨t1, i1, ifs1, as1⟩ := q1
        simp only [ck, Bool.and_eq_true] at h
        obtain ⟨⟨⟨⟨⟨⟨⟨⟨⟨⟨⟨⟨⟨⟨⟨⟨h0, h1⟩, h2⟩, h3⟩, h4⟩, h5⟩, h6⟩, h7⟩, h8⟩, h9⟩, h10⟩, h11⟩, h12⟩, h13⟩, h14⟩, h15⟩, h16⟩ := h
        have e0 := of_decide_eq_true h0
        have e1 := of_decide_eq_true h1
        subst e0 e1
        refine sound_of G (c_comp2 G h2 h3 h4 h5 h6 h7 (evi_sound it G h8 h9) h10 h13 (fun s H C0 cl fp => ?_) ?_ (fun s H C0 cl fp => evi_sound it1 (G.blk s H scope _ fp) h11 h12) (fun s H C0 cl fp => ?_) ?_ fun s H C0 cl fp => (ev_sound elt (G.blk s H scope _ fp) h16).pe) (fun _ => rfl) (fun _ _ _ z => nomatch z)
        · match ifs, h14 with
          | [], _ => exact pts_nil
          | [y], h14 => exact pts_one (ev_sound d (G.blk s H scope _ fp) h14).pt
          | _ :: _ :: _, h14 => cases h14
        · intro e
          subst e
          exact h14
        · match ifs1, h15 with
          | [], _ => exact pts_nil
          | [y], h15 => exact pts_one (ev_sound d1 (G.blk s H scope _ fp) h15).pt
          | _ :: _ :: _, h15 => cases h15
        · intro e
          subst e
          exact h15
      | [], h => simp [ck] at h
      | [_], h => simp [ck] at h
      | _ :: _ :: _ :: _, h => simp [ck] at h
    | _ => simp [ck] at h
  | .sset2 own tg it d own1 tg1 it1 d1 elt, X, W, x, G, h => by
    cases x with
    | Call f args kws pos =>
      match args, kws, h with
      | [.SetComp e gs scope p2], [], h =>
        match gs, h with
        | [q, q1], h =>
          obtain ⟨t, i, ifs, as⟩ := q
          obtain ⟨t1, i1, ifs1, as1⟩ := q1
          simp only [ck, Bool.and_eq_true] at h
          obtain ⟨⟨⟨⟨⟨⟨⟨⟨⟨⟨⟨⟨⟨⟨⟨⟨⟨hf, h0⟩, h1⟩, h2⟩, h3⟩, h4⟩, h5⟩, h6⟩, h7⟩, h8⟩, h9⟩, h10⟩, h11⟩, h12⟩, h13⟩, h14⟩, h15⟩, h16⟩ := h
          obtain ⟨p1, rfl, g1, g2⟩ := isBl_inv hf
          have e0 := of_decide_eq_true h0
          have e1 := of_decide_eq_true h1
          subst e0 e1
          refine sound_of G (c_sset2 G g2 g1 h2 h3 h4 h5 h6 h7 (evi_sound it G h8 h9) h10 h13 (fun s H C0 cl fp => ?_) ?_ (fun s H C0 cl fp => evi_sound it1 (G.blk s H scope _ fp) h11 h12) (fun s H C0 cl fp => ?_) ?_ fun s H C0 cl fp => (ev_sound elt (G.blk s H scope _ fp) h16).pe) (fun _ => rfl) (fun _ _ _ z => nomatch z)
          · match ifs, h14 with
            | [], _ => exact pts_nil
            | [y], h14 => exact pts_one (ev_sound d (G.blk s H scope _ fp) h14).pt
            | _ :: _ :: _, h14 => cases h14
          · intro e
            subst e
            exact h14
          · match ifs1, h15 with
            | [], _ => exact pts_nil
            | [y], h15 => exact pts_one (ev_sound d1 (G.blk s H scope _ fp) h15).pt
            | _ :: _ :: _, h15 => cases h15
          · intro e
            subst e
            exact h15
        | [], h => simp [ck] at h
        | [_], h => simp [ck] at h
        | _ :: _ :: _ :: _, h => simp [ck] at h
      | [], _, h => simp [ck] at h
      | [x], _ :: _, h => cases x <;> simp [ck] at h
      | _ :: _ :: _, _, h => simp [ck] at h
      | [.BoolOp ..], [], h => simp [ck] at h
      | [.NamedExpr ..], [], h => simp [ck] at h
      | [.BinOp ..], [], h => simp [ck] at h
      | [.UnaryOp ..], [], h => simp [ck] at h
      | [.Lambda ..], [], h => simp [ck] at h
      | [.IfExp ..], [], h => simp [ck] at h
      | [.Dict ..], [], h => simp [ck] at h
      | [.Set ..], [], h => simp [ck] at h
      | [.ListComp ..], [], h => simp [ck] at h
      | [.DictComp ..], [], h => simp [ck] at h
      | [.GeneratorExp ..], [], h => simp [ck] at h
      | [.Await ..], [], h => simp [ck] at h
      | [.Yield ..], [], h => simp [ck] at h
      | [.YieldFrom ..], [], h => simp [ck] at h
      | [.Compare ..], [], h => simp [ck] at h
      | [.Call ..], [], h => simp [ck] at h
      | [.FormattedValue ..], [], h => simp [ck] at h
      | [.JoinedStr ..], [], h => simp [ck] at h
      | [.Constant ..], [], h => simp [ck] at h
      | [.Attribute ..], [], h => simp [ck] at h
      | [.Subscript ..], [], h => simp [ck] at h
      | [.Starred ..], [], h => simp [ck] at h
      | [.Name ..], [], h => simp [ck] at h
      | [.List ..], [], h => simp [ck] at h
      | [.Tuple ..], [], h => simp [ck] at h
      | [.Slice ..], [], h => simp [ck] at h
    | _ => simp [ck] at h
  | .mind a, X, W, x, G, h => by
    cases x with
    | Call f args kws pos =>
      match args, kws, h with
      | [z], [], h =>
        simp only [ck, Bool.and_eq_true] at h
        obtain ⟨p1, rfl, g1, g2⟩ := isBl_inv h.1
        exact sound_of G (c_mind G g1 g2 (ev_sound a G h.2).pe (ck_plain h.2)) (fun _ => rfl) (fun _ _ _ z => nomatch z)
      | [], _, h => simp [ck] at h
      | [_], _ :: _, h => simp [ck] at h
      | _ :: _ :: _, _, h => simp [ck] at h
    | _ => simp [ck] at h
  | .lstd a, X, W, x, G, h => by
    cases x with
    | Call f args kws pos =>
      match args, kws, h with
      | [z], [], h =>
        simp only [ck, Bool.and_eq_true] at h
        obtain ⟨p1, rfl, g1, g2⟩ := isBl_inv h.1
        exact sound_of G (c_lstd G g1 g2 (ev_sound a G h.2).pe (ck_plain h.2)) (fun _ => rfl) (fun _ _ _ z => nomatch z)
      | [], _, h => simp [ck] at h
      | [_], _ :: _, h => simp [ck] at h
      | _ :: _ :: _, _, h => simp [ck] at h
    | _ => simp [ck] at h
  | .sset a, X, W, x, G, h => by
    cases x with
    | Call f args kws pos =>
      match args, kws, h with
      | [z], [], h =>
        simp only [ck, Bool.and_eq_true] at h
        obtain ⟨p1, rfl, g1, g2⟩ := isBl_inv h.1
        have h2 := h.2
        cases hz : callX z with
        | none => rw [hz] at h2; cases h2
        | some fx =>
          obtain ⟨f2, y⟩ := fx
          rw [hz] at h2
          simp only [Bool.and_eq_true] at h2
          obtain ⟨p2, rfl⟩ := callX_inv hz
          obtain ⟨p3, rfl, g3, g4⟩ := isBl_inv h2.1
          exact sound_of G (c_sset G g3 g4 g1 g2 (ev_sound a G h2.2).pe (ck_plain h2.2)) (fun _ => rfl) (fun _ _ _ z => nomatch z)
      | [], _, h => simp [ck] at h
      | [_], _ :: _, h => simp [ck] at h
      | _ :: _ :: _, _, h => simp [ck] at h
    | _ => simp [ck] at h
  | .lset a, X, W, x, G, h => by
    cases x with
    | Call f args kws pos =>
      match args, kws, h with
      | [z], [], h =>
        simp only [ck, Bool.and_eq_true] at h
        obtain ⟨p1, rfl, g1, g2⟩ := isBl_inv h.1
        have h2 := h.2
        cases hz : callX z with
        | none => rw [hz] at h2; cases h2
        | some fx =>
          obtain ⟨f2, y⟩ := fx
          rw [hz] at h2
          simp only [Bool.and_eq_true] at h2
          obtain ⟨p2, rfl⟩ := callX_inv hz
          obtain ⟨p3, rfl, g3, g4⟩ := isBl_inv h2.1
          exact sound_of G (c_lset G g3 g4 g1 g2 (ev_sound a G h2.2).pe (ck_plain h2.2)) (fun _ => rfl) (fun _ _ _ z => nomatch z)
      | [], _, h => simp [ck] at h
      | [_], _ :: _, h => simp [ck] at h
      | _ :: _ :: _, _, h => simp [ck] at h
    | _ => simp [ck] at h
  | .isi t a, X, W, x, G, h => by
    cases x with
    | Call f args kws pos =>
      match args, kws, h with
      | [z, y], [], h =>
        simp only [ck, Bool.and_eq_true] at h
        obtain ⟨p1, rfl, g1, g2⟩ := isBl_inv h.1.1
        obtain ⟨p2, rfl, g3, g4⟩ := isBl_inv h.1.2
        exact sound_of G (c_isi G g1 g2 g3 g4 (ev_sound a G h.2).pe (ck_plain h.2)) (fun _ => rfl) (fun _ _ _ z => nomatch z)
      | [], _, h => simp [ck] at h
      | [_], _, h => simp [ck] at h
      | [_, _], _ :: _, h => simp [ck] at h
      | _ :: _ :: _ :: _, _, h => simp [ck] at h
    | _ => simp [ck] at h
  | .repL a e, X, W, x, G, h => by
    cases x with
    | BinOp l op r pos =>
      cases op with
      | Mult =>
        simp only [ck, Bool.and_eq_true] at h
        exact sound_of G (c_repL G (ev_sound a G h.1).pe (ev_sound e G h.2).pe) (fun _ => rfl) (fun _ _ _ z => nomatch z)
      | _ => simp [ck] at h
    | _ => simp [ck] at h
  | .twl, X, W, x, G, h => by
    cases x with
    | Call f args kws pos =>
      match args, kws, h with
      | [z], [], h =>
        simp only [ck, Bool.and_eq_true] at h
        obtain ⟨⟨h1, h2⟩, h3⟩ := h
        obtain ⟨p1, rfl, g1, g2⟩ := isBl_inv h1
        obtain ⟨t, p2, rfl, e⟩ := isNm_inv h2
        rw [nmV, Bool.and_eq_true] at h3
        exact sound_of G (c_twl G g2 g1 e h3.1 h3.2) (fun _ => rfl) (fun _ _ _ z => nomatch z)
      | [], _, h => simp [ck] at h
      | [_], _ :: _, h => simp [ck] at h
      | _ :: _ :: _, _, h => simp [ck] at h
    | _ => simp [ck] at h
  | .twm j, X, W, x, G, h => by
    cases x with
    | BinOp l op r pos =>
      cases op with
      | Mod =>
        simp only [ck, Bool.and_eq_true] at h
        obtain ⟨h1, h2⟩ := h
        obtain ⟨a, b, rfl⟩ := isIntC_inv h1
        cases hs : subX l with
        | none => rw [hs] at h2; cases h2
        | some oi =>
          obtain ⟨o, i⟩ := oi
          rw [hs] at h2
          simp only [Bool.and_eq_true] at h2
          obtain ⟨p1, rfl⟩ := subX_inv hs
          obtain ⟨t, p2, rfl, e⟩ := isNm_inv h2.1.1
          have h3 := h2.1.2
          rw [nmV, Bool.and_eq_true] at h3
          obtain ⟨a', b', rfl⟩ := isIntC_inv h2.2
          exact sound_of G (c_twm G e h3.1 h3.2) (fun _ => rfl) (fun _ _ _ z => nomatch z)
      | _ => simp [ck] at h
    | _ => simp [ck] at h
theorem evs_each : ∀ (es : Es) {X : Cx} {W : WX} {xs : List Expr}, Good p c C g X W → cks C X.env.scope es xs = true → Each p g X W es xs
  | .nil, X, W, [], G, h => trivial
  | .cons e es, X, W, x :: xs, G, h => by
    rw [cks, Bool.and_eq_true] at h
    exact ⟨(ev_sound e G h.1).pe, evs_each es G h.2⟩
  | .nil, _, _, _ :: _, _, h => by simp [cks] at h
  | .cons _ _, _, _, [], _, h => by simp [cks] at h
theorem evs_sound : ∀ (es : Es) {X : Cx} {W : WX} {xs : List Expr}, Good p c C g X W → cks C X.env.scope es xs = true → PA X xs (tA p W g es) ∧ ∀ kws : List Keyword, kws.map (·.value) = xs → PK X kws (tA p W g es)
  | .nil, X, W, [], G, h => by
    refine ⟨c_nil G, fun kws e => ?_⟩
    have : kws = [] := by simpa using e
    subst this
    exact c_pknil G
  | .cons e es, X, W, x :: xs, G, h => by
    rw [cks, Bool.and_eq_true] at h
    have h1 := ev_sound e G h.1
    have h2 := evs_sound es G h.2
    refine ⟨c_cons G h1.pe h2.1 (ck_plain h.1), fun kws e => ?_⟩
    cases kws with
    | nil => simp at e
    | cons kw kws =>
      rw [List.map_cons, List.cons.injEq] at e
      obtain ⟨rfl, e⟩ := e
      exact c_pkcons G h1.pe (h2.2 kws e)
  | .nil, _, _, _ :: _, _, h => by simp [cks] at h
  | .cons _ _, _, _, [], _, h => by simp [cks] at h
theorem evd_sound : ∀ (es : Es) {X : Cx} {W : WX} {ks : List (Option Expr)} {vs : List Expr} {pos : Pos}, Good p c C g X W → ckd C X.env.scope es ks vs = true → PPs X pos ks vs (tprs p W g es) ∧ ks.all (·.isSome) = true ∧ ks.length = vs.length ∧ es.len = 2 * ks.length
  | .nil, X, W, [], [], pos, G, h => ⟨pps_nil, rfl, rfl, rfl⟩
  | .cons k (.cons v es), X, W, some x :: ks, y :: vs, pos, G, h => by
    rw [ckd, Bool.and_eq_true, Bool.and_eq_true] at h
    obtain ⟨g1, g2, g3, g4⟩ := evd_sound es (pos := pos) G h.2
    refine ⟨pps_cons (ev_sound k G h.1.1).pe (ev_sound v G h.1.2).pe g1, by rw [List.all_cons, g2]; rfl, by rw [List.length_cons, List.length_cons, g3], ?_⟩
    simp only [Es.len, List.length_cons, g4]
    omega
  | .nil, _, _, _ :: _, _, _, _, h => by simp [ckd] at h
  | .nil, _, _, [], _ :: _, _, _, h => by simp [ckd] at h
  | .cons _ .nil, _, _, _, _, _, _, h => by simp [ckd] at h
  | .cons _ (.cons _ _), _, _, [], _, _, _, h => by simp [ckd] at h
  | .cons _ (.cons _ _), _, _, none :: _, _, _, _, h => by simp [ckd] at h
  | .cons _ (.cons _ _), _, _, some _ :: _, [], _, _, h => by simp [ckd] at h
theorem evi_sound : ∀ (it : Y.It) {X : Cx} {W : WX} {t x : Expr}, Good p c C g X W → cki C X.env.scope it x = true → pairOk it t = true → PI X t x (tI p W g it)
  | .lst e, X, W, t, x, G, h, ht => by
    rw [cki] at h
    exact i_lst G (ev_sound e G h).pe
  | .tup e, X, W, t, x, G, h, ht => by
    rw [cki] at h
    exact i_tup G (ev_sound e G h).pe
  | .rng e, X, W, t, x, G, h, ht => by
    cases x with
    | Call f args kws pos =>
      match args, kws, h with
      | [z], [], h =>
        rw [cki, Bool.and_eq_true] at h
        obtain ⟨p1, rfl, h2, h3⟩ := isBl_inv h.1
        exact i_rng G h3 h2 (ck_plain h.2) (ev_sound e G h.2).pe
      | [], _, h => simp [cki] at h
      | [_], _ :: _, h => simp [cki] at h
      | _ :: _ :: _, _, h => simp [cki] at h
    | _ => simp [cki] at h
  | .keys e, X, W, t, x, G, h, ht => by cases x <;> simp [cki] at h
  | .enum e, X, W, t, x, G, h, ht => by
    cases t with
    | Tuple elts kk tpos =>
      cases x with
      | Call f args kws pos =>
        match args, kws, h with
        | [z], [], h =>
          rw [cki, Bool.and_eq_true] at h
          obtain ⟨p1, rfl, h2, h3⟩ := isBl_inv h.1
          exact i_enum G h3 h2 (ck_plain h.2) (ev_sound e G h.2).pe
        | [], _, h => simp [cki] at h
        | [_], _ :: _, h => simp [cki] at h
        | _ :: _ :: _, _, h => simp [cki] at h
      | _ => simp [cki] at h
    | _ => simp [pairOk, isTupX] at ht
  | .zip a b, X, W, t, x, G, h, ht => by
    cases t with
    | Tuple elts kk tpos =>
      cases x with
      | Call f args kws pos =>
        match args, kws, h with
        | [y, z], [], h =>
          rw [cki, Bool.and_eq_true, Bool.and_eq_true] at h
          obtain ⟨p1, rfl, h2, h3⟩ := isBl_inv h.1.1
          exact i_zip G h3 h2 (ck_plain h.1.2) (ck_plain h.2) (ev_sound a G h.1.2).pe (ev_sound b G h.2).pe
        | [], _, h => simp [cki] at h
        | [_], _, h => simp [cki] at h
        | [_, _], _ :: _, h => simp [cki] at h
        | _ :: _ :: _ :: _, _, h => simp [cki] at h
      | _ => simp [cki] at h
    | _ => simp [pairOk, isTupX] at ht
end
end
end Y

namespace Y
open PySem PySem.W PySem.Spec PyProof.Rows L2
variable [TownS]
/-- what a statement leaves -/
structure OS (B : Bs) (own : Nat → Option Addr) (H : Hp) (own' : Nat → Option Addr) (H' : Hp) : Prop where
  kp : Kp B own H H'
  old : ∀ i a, own' i = some a → (∃ j, own j = some a) ∨ H a = none
  dom : ∀ b, H b ≠ none → H' b ≠ none
theorem OS.trans {B : Bs} {o o1 o2 : Nat → Option Addr} {H H1 H2 : Hp} (a : OS B o H o1 H1) (b : OS B o1 H1 o2 H2) : OS B o H o2 H2 where
  kp := fun c u e n => by
    refine b.kp c u (a.kp c u e n) fun h => ?_
    rcases h with h | ⟨i, h⟩
    · exact n (.inl h)
    · rcases a.old i c h with ⟨j, h⟩ | h
      · exact n (.inr ⟨j, h⟩)
      · rw [e] at h; cases h
  old := fun i c h => by
    rcases b.old i c h with ⟨j, h⟩ | h
    · exact a.old j c h
    · refine .inr ?_
      cases e : H c with
      | none => rfl
      | some u => exact absurd h (a.dom c (by rw [e]; simp))
  dom := fun c h => b.dom c (a.dom c h)
theorem OS.stp {B : Bs} {own : Nat → Option Addr} {H H' : Hp} {K : PySem.W.Frag} {ρ : Rho} {k : Nat} {σ : L2.St} (s : Stp B H H') (er : ER K B own ρ k σ H') : OS B own H own H' :=
  ⟨s.kp, fun i a h => .inl ⟨i, h⟩, fun b h => by
    by_cases t : B.isT b
    · exact er.dom (isT_hid t)
    · cases e : H b with
      | none => exact absurd e h
      | some o => rw [s b o e t]; simp⟩
theorem OS.less {B : Bs} {own : Nat → Option Addr} {H : Hp} {sl : List Nat} : OS B own H (lessL own sl) H := ⟨fun _ _ e _ => e, fun i a h => .inl ⟨i, (lessL_sub h).1⟩, fun _ h => h⟩
def FinO (p : Par) (W : WX) (B : Bs) (own : Nat → Option Addr) (H : Hp) (E : Ends) : Out → Prop
  | .nx ρ' k' => ∀ own' σ' H', ER p.K B own' ρ' k' σ' H' → OS B own H own' H' → E.nx σ' H'
  | .rt x k' => ∀ v own' ρ' σ' H', ER p.K B own' ρ' k' σ' H' → OS B own H own' H' → Rp p.K (Hd H' B.P0) v x → E.rt v H'
  | .bk ρ' k' => ∀ own' σ' H', ER p.K B own' ρ' k' σ' H' → OS B own H own' H' → E.bk σ' H'
  | .ct ρ' k' => ∀ own' σ' H', ER p.K B own' ρ' k' σ' H' → OS B own H own' H' → E.ct σ' H'
  | .ex x k' => ∀ cls dx own' ρ' σ' H', ER p.K B own' ρ' k' σ' H' → OS B own H own' H' → p.EX x cls dx H' → W cls dx σ' H'
  | .no => False
theorem FinO.later {p : Par} {W : WX} {B : Bs} {o o1 : Nat → Option Addr} {H H1 : Hp} {E : Ends} (s : OS B o H o1 H1) : ∀ {r : Out}, FinO p W B o H E r → FinO p W B o1 H1 E r
  | .nx _ _, h => fun own' σ' H' er s' => h own' σ' H' er (s.trans s')
  | .rt _ _, h => fun v own' ρ' σ' H' er s' q => h v own' ρ' σ' H' er (s.trans s') q
  | .bk _ _, h => fun own' σ' H' er s' => h own' σ' H' er (s.trans s')
  | .ct _ _, h => fun own' σ' H' er s' => h own' σ' H' er (s.trans s')
  | .ex _ _, h => fun cls dx own' ρ' σ' H' er s' q => h cls dx own' ρ' σ' H' er (s.trans s') q
  | .no, h => h
def tS (p : Par) (W : WX) (g : G) (s : S) : TS := fun E σ H => ∃ B own ρ k, ER p.K B own ρ k σ H ∧ FinO p W B own H E (exe g s ρ k)
def tSs (p : Par) (W : WX) (g : G) (s : Ss) : TS := fun E σ H => ∃ B own ρ k, ER p.K B own ρ k σ H ∧ FinO p W B own H E (exes g s ρ k)
theorem _root_.L2.PS.imp {X : Cx} {s : Stmt} {t t' : TS} (h : PS X s t) (i : ∀ E σ H, t' E σ H → t E σ H) : PS X s t' := ⟨fun pins s σ H D I q => h.run pins s σ H D I (i D σ H q)⟩
theorem _root_.L2.PSs.imp {X : Cx} {s : List Stmt} {t t' : TS} (h : PSs X s t) (i : ∀ E σ H, t' E σ H → t E σ H) : PSs X s t' := ⟨fun pins s σ H D I q => h.run pins s σ H D I (i D σ H q)⟩
section
variable {p : Par} {W : WX} {B : Bs} {own : Nat → Option Addr} {ρ : Rho} {k k1 : Nat} {σ : L2.St} {H H1 H' : Hp} {g : G} {e : E} {E0 : Ends} {Q : VK}
/-- an expression ahead of what follows in a statement -/
theorem tE.go {f : D → Nat → Out} (er : ER p.K B own ρ k σ H) (h : FinO p W B own H E0 ((ev g e ρ k).go f))
    (next : ∀ d k1 v H1, ER p.K B own ρ k1 σ H1 → Stp B H H1 → RV p.K B own H H1 (kdOf ρ e) v d → FinO p W B own H1 E0 (f d k1) → Q v H1) : tE p W g e σ H Q := by
  refine ⟨B, own, ρ, k, er, ?_⟩
  cases he : ev g e ρ k with
  | no => rw [he] at h; exact h
  | ex x kk =>
    rw [he] at h
    exact fun cls dx H' er' s' q => h cls dx own ρ σ H' er' (OS.stp s' er') q
  | ok r =>
    rw [he] at h
    exact fun v H' er' s' q => next r.1 r.2 v H' er' s' q (FinO.later (OS.stp s' er') h)
theorem tT.go {f : Bool → Nat → Out} {Q : Bool → Hp → Prop} (er : ER p.K B own ρ k σ H) (h : FinO p W B own H E0 ((ev g e ρ k).go fun x k => tst x fun b => f b k))
    (next : ∀ b k1 H1, ER p.K B own ρ k1 σ H1 → Stp B H H1 → FinO p W B own H1 E0 (f b k1) → Q b H1) : tT p W g e σ H Q := by
  refine ⟨B, own, ρ, k, er, ?_⟩
  cases he : ev g e ρ k with
  | no => rw [he] at h; exact h
  | ex x kk =>
    rw [he] at h
    exact fun cls dx H' er' s' q => h cls dx own ρ σ H' er' (OS.stp s' er') q
  | ok r =>
    rw [he] at h
    have h : FinO p W B own H E0 (tst r.1 fun b => f b r.2) := h
    unfold tst at h
    cases hb : truD r.1 with
    | none => rw [hb] at h; exact h.elim
    | some b =>
      rw [hb] at h
      exact ⟨b, hb, fun H' er' s' => next b r.2 H' er' s' (FinO.later (OS.stp s' er') h)⟩
end
/-! ### stores into slots -/
def setO (own : Nat → Option Addr) (i : Nat) (a : Addr) : Nat → Option Addr := fun j => if j = i then some a else own j
section
variable {K : PySem.W.Frag} {B : Bs} {own : Nat → Option Addr} {ρ : Rho} {k k1 : Nat} {σ : L2.St} {H H0 H1 H' : Hp} {v : V} {d : D} {kd : Kd} {i : Nat} {a q : Addr}
theorem setO_self : setO own i a i = some a := by unfold setO; rw [if_pos rfl]
theorem setO_ne {j : Nat} (h : j ≠ i) : setO own i a j = own j := by unfold setO; rw [if_neg h]
theorem setO_hid {b : Addr} (h : hid B (setO own i a) b) : hid B own b ∨ b = a := by
  rcases h with h | ⟨j, h⟩
  · exact .inl (.inl h)
  · by_cases e : j = i
    · subst e
      rw [setO_self] at h
      exact .inr (Option.some.inj h).symm
    · rw [setO_ne e] at h
      exact .inl (.inr ⟨j, h⟩)
/-- what is wanted of a new one -/
def NewAt (K : PySem.W.Frag) (B : Bs) (own : Nat → Option Addr) (H : Hp) (q : Addr) : SV → Prop
  | .own l => OwnL K H (Hd H (fun a => hid B own a ∨ a = q)) q l
  | .ownd t l => DcR K H (Hd H (fun a => hid B own a ∨ a = q)) q t l
  | _ => False
theorem NewAt.isown {sv : SV} (h : NewAt K B own H q sv) : isOwn sv = true := by
  cases sv <;> first | rfl | exact h.elim
theorem NewAt.at {sv : SV} (h : NewAt K B own H q sv) : ∃ o, H q = some o ∧ ∀ xs, o ≠ .tup xs ∧ ∀ ob u, o ≠ .frz ob u := by
  cases sv with
  | own l =>
    obtain ⟨vs, e, _⟩ := h
    exact ⟨_, e, fun xs => ⟨(fun z => nomatch z), fun _ _ z => nomatch z⟩⟩
  | ownd t l =>
    rcases h with ⟨_, ks, ds, e, _⟩ | ⟨_, ks, ds, e, _⟩
    · exact ⟨_, e, fun xs => ⟨(fun z => nomatch z), fun _ _ z => nomatch z⟩⟩
    · exact ⟨_, e, fun xs => ⟨(fun z => nomatch z), fun _ _ z => nomatch z⟩⟩
  | d _ => exact h.elim
  | town => exact h.elim
  | scr => exact h.elim
/-- a new list, a new dict comes into a slot; H0: the heap ahead of its making -/
theorem ER.putOwn {sv : SV} (r0 : ER K B own ρ k1 σ H0) (s : Stp B H0 H) (r : ER K B own ρ k σ H) (hi : i < ρ.length) (hq : H0 q = none) (n : NewAt K B own H q sv) : ER K B (setO own i q) (ρ.set i (some sv)) k (σ.set i (some (.ref q))) H := by
  have nq : ¬ hid B own q := fun z => r0.dom z hq
  have hd : ∀ b o, Hd H0 (hid B own) b = some o → Hd H (hid B (setO own i q)) b = some o := fun b o e => by
    have e1 := Hd.le b o e
    refine Hd.at (fun z => ?_) (s b o e1 fun t => Hd.np e (isT_hid t))
    rcases setO_hid z with z | z
    · exact Hd.np e z
    · rw [z, hq] at e1; cases e1
  have nh : ∀ b o, Hd H (fun a => hid B own a ∨ a = q) b = some o → Hd H (hid B (setO own i q)) b = some o := Hd.less fun b z => setO_hid z
  obtain ⟨oq, eq, tq⟩ := n.at
  exact {
    len := by rw [List.length_set, List.length_set]; exact r.len
    inj := fun j l b h1 h2 => by
      by_cases e1 : j = i <;> by_cases e2 : l = i
      · rw [e1, e2]
      · subst e1
        rw [setO_self] at h1
        rw [setO_ne e2] at h2
        cases h1
        exact absurd (.inr ⟨l, h2⟩) nq
      · subst e2
        rw [setO_self] at h2
        rw [setO_ne e1] at h1
        cases h2
        exact absurd (.inr ⟨j, h1⟩) nq
      · rw [setO_ne e1] at h1
        rw [setO_ne e2] at h2
        exact r.inj j l b h1 h2
    dom0 := r.dom0
    np := fun j b h z => by
      by_cases e : j = i
      · subst e
        rw [setO_self] at h
        cases h
        exact nq (.inl z)
      · rw [setO_ne e] at h
        exact r.np j b h z
    kind := fun j b h => by
      by_cases e : j = i
      · subst e
        exact ⟨sv, List.getElem?_set_self hi, n.isown⟩
      · rw [setO_ne e] at h
        rw [List.getElem?_set_ne (Ne.symm e)]
        exact r.kind j b h
    new := fun j b h => by
      by_cases e : j = i
      · subst e
        rw [setO_self] at h
        cases h
        refine ⟨?_, oq, eq, tq⟩
        cases z : B.H0 q with
        | none => rfl
        | some o =>
          rw [r0.base q o z fun t => nq (isT_hid t)] at hq
          cases hq
      · rw [setO_ne e] at h
        exact r.new j b h
    base := r.base
    town := r.town
    slot := fun j sv' e => by
      by_cases hj : j = i
      · subst hj
        rw [List.getElem?_set_self hi] at e
        cases e
        refine ⟨.ref q, List.getElem?_set_self (by rw [← r.len]; exact hi), ?_⟩
        cases sv with
        | own l => exact ⟨q, setO_self, rfl, OwnL.step (fun o e => e) nh n⟩
        | ownd t l => exact ⟨q, setO_self, rfl, DcR.step (fun o e => e) nh n⟩
        | d _ => exact n.elim
        | town => exact n.elim
        | scr => exact n.elim
      · rw [List.getElem?_set_ne (Ne.symm hj)] at e
        obtain ⟨u, h1, h2⟩ := r0.slot j sv' e
        refine ⟨u, by rw [List.getElem?_set_ne (Ne.symm hj)]; exact h1, ?_⟩
        cases sv' with
        | d x => exact Rp.mono hd h2
        | own l =>
          obtain ⟨b, h1, h2, h3⟩ := h2
          exact ⟨b, by rw [setO_ne hj]; exact h1, h2, h3.step (fun o e => s b o e (r0.notT h1)) hd⟩
        | ownd t l =>
          obtain ⟨b, h1, h2, h3⟩ := h2
          exact ⟨b, by rw [setO_ne hj]; exact h1, h2, h3.step (fun o e => s b o e (r0.notT h1)) hd⟩
        | town => exact h2
        | scr => exact Rp.mono hd h2 }
theorem OS.putOwn (s : Stp B H0 H) (r : ER K B own ρ k σ H) (hq : H0 q = none) : OS B own H0 (setO own i q) H :=
  ⟨s.kp, fun j b h => by
    by_cases e : j = i
    · subst e
      rw [setO_self] at h
      cases h
      exact .inr hq
    · rw [setO_ne e] at h
      exact .inl ⟨j, h⟩, (OS.stp s r).dom⟩
/-- one of the frame's own is changed -/
theorem ER.upOwn {sv : SV} {o : HO} (r : ER K B own ρ k σ H) (hi : own i = some a) (ho : ∀ xs, o ≠ .tup xs ∧ ∀ ob u, o ≠ .frz ob u) (hs : isOwn sv = true)
    (n : (∀ b u, Hd H (hid B own) b = some u → Hd (upd H a o) (hid B own) b = some u) → SVR K B own (upd H a o) i (.ref a) sv) : ER K B own (ρ.set i (some sv)) k σ (upd H a o) := by
  have ha : hid B own a := .inr ⟨i, hi⟩
  have ne : ∀ {b u}, Hd H (hid B own) b = some u → b ≠ a := fun e z => Hd.np e (z ▸ ha)
  have hd : ∀ b u, Hd H (hid B own) b = some u → Hd (upd H a o) (hid B own) b = some u := fun b u e => Hd.at (Hd.np e) (by rw [upd_ne (ne e)]; exact Hd.le b u e)
  obtain ⟨sv0, e0, _⟩ := r.kind i a hi
  have hil : i < ρ.length := (List.getElem?_eq_some_iff.mp e0).1
  obtain ⟨v0, ev0, q0⟩ := r.slot i sv0 e0
  have hv0 : v0 = .ref a := by
    cases sv0 with
    | own l => obtain ⟨b, h1, h2, _⟩ := q0; rw [hi] at h1; cases h1; exact h2
    | ownd t l => obtain ⟨b, h1, h2, _⟩ := q0; rw [hi] at h1; cases h1; exact h2
    | d _ => rename_i h; cases h
    | town => rename_i h; cases h
    | scr => rename_i h; cases h
  subst hv0
  exact {
    len := by rw [List.length_set]; exact r.len
    inj := r.inj
    dom0 := fun b h => by
      by_cases e : b = a
      · rw [e, upd_same]; simp
      · rw [upd_ne e]; exact r.dom0 b h
    np := r.np
    kind := fun j b h => by
      by_cases e : j = i
      · subst e
        exact ⟨sv, List.getElem?_set_self hil, hs⟩
      · rw [List.getElem?_set_ne (Ne.symm e)]
        exact r.kind j b h
    new := fun j b h => by
      obtain ⟨h1, u, h2, h3⟩ := r.new j b h
      by_cases e : b = a
      · subst e
        exact ⟨h1, o, upd_same, ho⟩
      · exact ⟨h1, u, by rw [upd_ne e]; exact h2, h3⟩
    base := fun b u e t => by
      have : b ≠ a := fun z => by rw [z, (r.new i a hi).1] at e; cases e
      rw [upd_ne this]
      exact r.base b u e t
    town := fun t f e => by
      have : t ≠ a := fun z => r.notT hi ⟨f, z ▸ e⟩
      rw [upd_ne this]
      exact r.town t f e
    slot := fun j sv' e => by
      by_cases hj : j = i
      · subst hj
        rw [List.getElem?_set_self hil] at e
        cases e
        exact ⟨.ref a, ev0, n hd⟩
      · rw [List.getElem?_set_ne (Ne.symm hj)] at e
        obtain ⟨u, h1, h2⟩ := r.slot j sv' e
        refine ⟨u, h1, ?_⟩
        have nb : ∀ {b}, own j = some b → b ≠ a := fun h z => hj (r.inj j i a (z ▸ h) hi)
        cases sv' with
        | d x => exact Rp.mono hd h2
        | own l =>
          obtain ⟨b, h1, h2, h3⟩ := h2
          exact ⟨b, h1, h2, h3.step (fun o e => by rw [upd_ne (nb h1)]; exact e) hd⟩
        | ownd t l =>
          obtain ⟨b, h1, h2, h3⟩ := h2
          exact ⟨b, h1, h2, h3.step (fun o e => by rw [upd_ne (nb h1)]; exact e) hd⟩
        | town => exact h2
        | scr => exact Rp.mono hd h2 }
theorem OS.upOwn {o : HO} (hi : own i = some a) : OS B own H own (upd H a o) :=
  ⟨fun b u e n => by rw [upd_ne fun z => n (.inr ⟨i, by rw [z]; exact hi⟩)]; exact e, fun j b h => .inl ⟨j, h⟩, fun b h => by
    by_cases e : b = a
    · rw [e, upd_same]; simp
    · rw [upd_ne e]; exact h⟩
end
end Y

namespace Y
open PySem PySem.W PySem.Spec PyProof.Rows L2
variable [TownS]
structure GoodS (p : Par) (c : Cnt) (C : Ck) (g : G) (X : Cx) (W : WX) : Prop where
  good : Good p c C g X W
  kind : X.env.scope.kind = .function
  fn : X.fn = fun _ => true
  own : PassesOwn (model X.prog X.w) X.A X.env X.xe
/-- no comprehension -/
def noComp : Expr → Bool
  | .ListComp .. => false
  | .SetComp .. => false
  | .DictComp .. => false
  | _ => true
theorem noComp_sw {e : Expr} {t : Option Expr} {l : Nat} {env : Env} (h : noComp e = true) : swapsWith e t l env = pure false := by
  cases e <;> first | rfl | (simp [noComp] at h)
theorem noComp_sole {e t : Expr} {l : Nat} {env : Env} (h : noComp e = true) : swapsWithSole [t] e l env = pure false := noComp_sw h
/-- whether the name is stored within the comprehension -/
def swB (sc : Scope) (x : Str) (px : Pos) : Expr → Bool
  | .ListComp e gs s pos => decide (sc.names.lookup x = some .local) && px.line == pos.line && !(s.names.any fun (n, k) => n == x && (k == .local || k == .cell))
  | _ => false
theorem sw_no {v : Expr} {x : Str} {px : Pos} {l : Nat} {env : Env} (hk : env.scope.kind = .function) (hp : plainX v = true) (h : swB env.scope x px v = false) : swapsWith v (some (.Name x px)) l env = pure false := by
  cases v with
  | ListComp e gs s pos =>
    have hb : env.blockKind = .function := by unfold Env.blockKind; rw [hk]; rfl
    unfold swapsWith
    unfold swB at h
    show (pure _ : Sem Bool) = pure false
    congr 1
    simp only [hb, Expr.pos]
    have hkk : (env.kindOf x == some NameKind.local) = decide (env.scope.names.lookup x = some .local) := by
      show (env.scope.names.lookup x == some NameKind.local) = _
      by_cases e : env.scope.names.lookup x = some .local
      · rw [decide_eq_true e]; simpa using e
      · rw [decide_eq_false e]; simpa using e
    rw [hkk]
    simpa using h
  | _ => first | rfl | (simp [plainX] at hp)
section
variable {p : Par} {c : Cnt} {C : Ck} {g : G} {X : Cx} {W : WX} {pos : Pos}
theorem s_expr (G : GoodS p c C g X W) {e : E} {x : Expr} (h : PE X x (tE p W g e)) (hn : noComp x = true) : PS X (.Expr x pos) (tS p W g (.expr e)) :=
  (ps_expr h (noComp_sw hn)).imp fun D σ H ⟨B, own, ρ, k, er, f⟩ => by
    unfold exe at f
    exact tE.go er f fun d k1 v H1 er1 s1 q1 f => f own σ H1 er1 (OS.stp Stp.refl er1)
theorem s_ret (G : GoodS p c C g X W) {e : E} {x : Expr} (h : PE X x (tE p W g e)) : PS X (.Return (some x) pos) (tS p W g (.ret e)) :=
  (ps_ret h).imp fun D σ H ⟨B, own, ρ, k, er, f⟩ => by
    unfold exe at f
    exact tE.go er f fun d k1 v H1 er1 s1 q1 f => f v own ρ σ H1 er1 (OS.stp Stp.refl er1) (q1.weak er1)
theorem s_brk : PS X (.Break pos) (tS p W g .brk) := ps_break.imp fun D σ H ⟨B, own, ρ, k, er, f⟩ => f own σ H er (OS.stp Stp.refl er)
theorem s_cont : PS X (.Continue pos) (tS p W g .cont) := ps_continue.imp fun D σ H ⟨B, own, ρ, k, er, f⟩ => f own σ H er (OS.stp Stp.refl er)
theorem s_pass : PS X (.Pass pos) (tS p W g .pass) := ps_pass.imp fun D σ H ⟨B, own, ρ, k, er, f⟩ => f own σ H er (OS.stp Stp.refl er)
theorem s_nil : PSs X [] (tSs p W g .nil) := pss_nil.imp fun D σ H ⟨B, own, ρ, k, er, f⟩ => f own σ H er (OS.stp Stp.refl er)
theorem s_cons {s : S} {ss : Ss} {st : Stmt} {sts : List Stmt} (h : PS X st (tS p W g s)) (hs : PSs X sts (tSs p W g ss)) : PSs X (st :: sts) (tSs p W g (.cons s ss)) :=
  (pss_cons h hs).imp fun D σ H ⟨B, own, ρ, k, er, f⟩ => by
    unfold exes at f
    refine ⟨B, own, ρ, k, er, ?_⟩
    cases he : exe g s ρ k with
    | nx ρ1 k1 =>
      rw [he] at f
      exact fun own1 σ1 H1 er1 s1 => ⟨B, own1, ρ1, k1, er1, FinO.later s1 f⟩
    | rt x kk => rw [he] at f; exact f
    | bk ρ1 kk => rw [he] at f; exact f
    | ct ρ1 kk => rw [he] at f; exact f
    | ex x kk => rw [he] at f; exact f
    | no => rw [he] at f; exact f
/-- an own one becomes a datum -/
theorem frz_at {K : PySem.W.Frag} {B : Bs} {own : Nat → Option Addr} {ρ : Rho} {k : Nat} {σ : L2.St} {H : Hp} {i : Nat} {sv : SV} {d : D} (er : ER K B own ρ k σ H) (e : ρ[i]? = some (some sv)) (hd : (∃ l, sv = .own l ∧ d = .list l) ∨ ∃ l, sv = .ownd (kindD l) l ∧ d = .dict l) :
    ∃ σ', σ' = σ ∧ ER K B (lessL own [i]) (ρ.set i (some (.d d))) k σ' H := by
  refine ⟨σ, rfl, ?_⟩
  obtain ⟨v, ev, q⟩ := er.slot i sv e
  have hi : i < ρ.length := (List.getElem?_eq_some_iff.mp e).1
  have core : ∀ a, own i = some a → v = .ref a → OwnV K H (Hd H (hid B own)) a d → ER K B (lessL own [i]) (ρ.set i (some (.d d))) k σ H := fun a h1 h2 h3 => by
    have na : ¬ hid B (lessL own [i]) a := by
      rintro (z | ⟨j, z⟩)
      · exact er.np i a h1 z
      · obtain ⟨z1, z2⟩ := lessL_sub z
        exact z2 (by rw [er.inj j i a z1 h1]; simp)
    have rp : Rp K (Hd H (hid B (lessL own [i]))) v d := by
      rw [h2]
      exact h3.rp (fun o e => Hd.at na e) lessL_hd
    have hσ : σ.set i (some v) = σ := by
      apply List.ext_getElem?
      intro j
      by_cases hj : j = i
      · subst hj
        rw [List.getElem?_set_self (by rw [← er.len]; exact hi), ev]
      · rw [List.getElem?_set_ne (Ne.symm hj)]
    exact {
      len := by rw [List.length_set]; exact er.len
      inj := fun j l a h1 h2 => er.inj j l a (lessL_sub h1).1 (lessL_sub h2).1
      dom0 := er.dom0
      np := fun j a h => er.np j a (lessL_sub h).1
      kind := fun j b h => by
        obtain ⟨sv', e', q'⟩ := er.kind j b (lessL_sub h).1
        have hj : j ≠ i := by simpa using (lessL_sub h).2
        exact ⟨sv', by rw [List.getElem?_set_ne (Ne.symm hj)]; exact e', q'⟩
      new := fun j b h => er.new j b (lessL_sub h).1
      base := er.base
      town := er.town
      slot := fun j sv' e' => by
        by_cases hj : j = i
        · subst hj
          rw [List.getElem?_set_self hi] at e'
          cases e'
          exact ⟨v, ev, rp⟩
        · rw [List.getElem?_set_ne (Ne.symm hj)] at e'
          obtain ⟨u, h1, h2⟩ := er.slot j sv' e'
          exact ⟨u, h1, SVR.lessL (by simpa using hj) h2⟩ }
  rcases hd with ⟨l, rfl, rfl⟩ | ⟨l, rfl, rfl⟩
  · obtain ⟨a, h1, h2, h3⟩ := q
    exact core a h1 h2 (.inl ⟨l, rfl, h3⟩)
  · obtain ⟨a, h1, h2, h3⟩ := q
    exact core a h1 h2 (.inr ⟨l, rfl, h3⟩)
theorem s_frz {i : Nat} {ss : Ss} {sts : List Stmt} (hs : PSs X sts (tSs p W g ss)) : PSs X sts (tSs p W g (.cons (.frz i) ss)) :=
  hs.imp fun D σ H ⟨B, own, ρ, k, er, f⟩ => by
    unfold exes at f
    unfold exe at f
    have fin : ∀ {sv d}, ρ[i]? = some (some sv) → ((∃ l, sv = .own l ∧ d = .list l) ∨ ∃ l, sv = .ownd (kindD l) l ∧ d = .dict l) → FinO p W B own H D (exes g ss (ρ.set i (some (.d d))) k) → tSs p W g ss D σ H := fun {sv d} e hd f => by
      obtain ⟨σ', rfl, er'⟩ := frz_at er e hd
      exact ⟨B, _, _, k, er', FinO.later OS.less f⟩
    cases e : ρ[i]? with
    | none => rw [e] at f; exact f.elim
    | some o =>
      cases o with
      | none => rw [e] at f; exact f.elim
      | some sv =>
        rw [e] at f
        cases sv with
        | own l => exact fin e (.inl ⟨l, rfl, rfl⟩) f
        | ownd t l =>
          simp only at f
          split at f
          · rename_i ht
            subst ht
            exact fin e (.inr ⟨l, rfl, rfl⟩) f
          · exact f.elim
        | d _ => exact f.elim
        | town => exact f.elim
        | scr => exact f.elim
theorem s_iff (G : GoodS p c C g X W) {e : E} {a b : Ss} {x : Expr} {sa sb : List Stmt} (h : PT X x (tT p W g e)) (ha : PSs X sa (tSs p W g a)) (hb : PSs X sb (tSs p W g b)) : PS X (.If x sa sb pos) (tS p W g (.iff e a b)) :=
  (ps_if h ha hb).imp fun D σ H ⟨B, own, ρ, k, er, f⟩ => by
    unfold exe at f
    refine tT.go (f := fun t k => if t = true then exes g a ρ k else exes g b ρ k) er f fun t k1 H1 er1 s1 f => ?_
    cases t with
    | true => exact iteT ⟨B, own, ρ, k1, er1, f⟩
    | false => exact iteF ⟨B, own, ρ, k1, er1, f⟩
theorem s_whl (G : GoodS p c C g X W) {e : E} {b : Ss} {x : Expr} {sb : List Stmt} (h : PT X x (tT p W g e)) (hb : PSs X sb (tSs p W g b)) : PS X (.While x sb [] pos) (tS p W g (.whl e b)) :=
  (ps_while G.own h hb).imp fun D σ H ⟨B, own, ρ, k, er, f⟩ => by
    unfold exe at f
    refine ⟨fun n σ H => ∃ own1 ρ k, ER p.K B own1 ρ k σ H ∧ FinO p W B own1 H D (whlL (ev g e) (exes g b) n ρ k), ⟨g.fuel, own, ρ, k, er, f⟩, fun n σ1 H1 ⟨own1, ρ1, k1, er1, f⟩ => ?_⟩
    cases n with
    | zero => exact f.elim
    | succ n =>
      unfold whlL at f
      refine tT.go (f := fun t k => if t = true then (match exes g b ρ1 k with
        | .nx ρ k => whlL (ev g e) (exes g b) n ρ k
        | .ct ρ k => whlL (ev g e) (exes g b) n ρ k
        | .bk ρ k => .nx ρ k
        | o => o) else .nx ρ1 k) er1 f fun t k2 H2 er2 s2 f => ?_
      cases t with
      | false =>
        rw [if_neg (by decide)] at f
        exact iteF (f own1 σ1 H2 er2 (OS.stp Stp.refl er2))
      | true =>
        rw [if_pos rfl] at f
        refine iteT ⟨fun σ H => ∃ own1 ρ k, ER p.K B own1 ρ k σ H ∧ FinO p W B own1 H D (whlL (ev g e) (exes g b) n ρ k), fun σ' H' hN => ⟨n, Nat.lt_succ_self n, hN⟩, B, own1, ρ1, k2, er2, ?_⟩
        cases hx : exes g b ρ1 k2 with
        | nx ρ3 k3 =>
          rw [hx] at f
          exact fun own3 σ3 H3 er3 s3 => ⟨own3, ρ3, k3, er3, FinO.later s3 f⟩
        | ct ρ3 k3 =>
          rw [hx] at f
          exact fun own3 σ3 H3 er3 s3 => ⟨own3, ρ3, k3, er3, FinO.later s3 f⟩
        | bk ρ3 k3 =>
          rw [hx] at f
          exact fun own3 σ3 H3 er3 s3 => f own3 σ3 H3 er3 s3
        | rt _ _ => rw [hx] at f; exact f
        | ex _ _ => rw [hx] at f; exact f
        | no => rw [hx] at f; exact f
end
end Y

namespace Y
open PySem PySem.W PySem.Spec PyProof.Rows L2
variable [TownS]
section
variable {p : Par} {c : Cnt} {C : Ck} {g : G} {X : Cx} {W : WX} {pos : Pos}
theorem Yd.rpO {K : PySem.W.Frag} {B : Bs} {own own1 : Nat → Option Addr} {ρ : Rho} {k : Nat} {σ : L2.St} {H1 H H' : Hp} {x : V} {d : D} (y : Yd K (Hd H1 (hid B own)) x d H H') (s : OS B own H1 own1 H) (er : ER K B own1 ρ k σ H) :
    ER K B own1 ρ k σ H' ∧ Stp B H H' ∧ Rp K (Hd H' (hid B own1)) x d := by
  have hd : ∀ a o, Hd H1 (hid B own) a = some o → Hd H (hid B own1) a = some o := fun a o e => by
    have e1 := Hd.le a o e
    have n := Hd.np e
    refine Hd.at (fun h => ?_) (s.kp a o e1 n)
    rcases h with h | ⟨i, h⟩
    · exact n (.inl h)
    · rcases s.old i a h with ⟨j, h⟩ | h
      · exact n (.inr ⟨j, h⟩)
      · rw [e1] at h; cases h
  rcases y with ⟨rfl, q⟩ | ⟨T, a, b, da, db, rfl, hT, rfl, rfl, qa, qb⟩
  · exact ⟨er, Stp.refl, q.mono hd⟩
  · have sm : Same H (upd H T (.tup [a, b])) := same_new hT
    refine ⟨er.same sm, Stp.same sm, ?_⟩
    exact new_tup er hT (show 2 ≤ sizeLine by decide) (.cons (qa.mono hd) (.cons (qb.mono hd) .nil))
theorem s_forr (G : GoodS p c C g X W) {tg : Tg} {it : Y.It} {b : Ss} {t i : Expr} {sb : List Stmt} (hi : PI X t i (tI p W g it)) (hpl : plainX i = true) (hg : PG X t (tG p tg)) (hb : PSs X sb (tSs p W g b)) : PS X (.For t i sb [] pos) (tS p W g (.forr tg it b)) :=
  (ps_for G.own G.good.calm hi hg hb (plain_fold hpl)).imp fun D σ H ⟨B, own, ρ, k, er, f⟩ => by
    unfold exe at f
    cases htr : trI ρ it with
    | true => rw [htr] at f; exact f.elim
    | false =>
      rw [htr] at f
      refine ⟨B, own, ρ, k, er, ?_⟩
      cases hv : evi g it ρ k with
      | no => rw [hv] at f; exact f.elim
      | ex x kk =>
        rw [hv] at f
        exact fun cls dx H' er' s' q => f cls dx own ρ σ H' er' (OS.stp s' er') q
      | ok r =>
        rw [hv] at f
        obtain ⟨l, k1⟩ := r
        have f : FinO p W B own H D (forL (bindT tg) (exes g b) l ρ k1) := f
        intro J H1 er1 s1 hl itr
        have f := FinO.later (OS.stp s1 er1) f
        rw [htr] at itr
        obtain ⟨S, Yp, w, hS, hY⟩ := itr
        let Pv : Nat → L2.St → Hp → Prop := fun i σ' H' => ∃ own' ρ' k', ER p.K B own' ρ' k' σ' H' ∧ OS B own H1 own' H' ∧ FinO p W B own' H' D (forL (bindT tg) (exes g b) (l.drop i) ρ' k')
        refine for_it w Pv ⟨own, ρ, k1, er1, OS.stp Stp.refl er1, by rw [List.drop_zero]; exact f⟩ (fun i σ' H' _ ⟨own', ρ', k', er', s', _⟩ => hS H' ?_) (fun i x σ' H' H2 hi ⟨own', ρ', k', er', s', f⟩ hy => ?_) (fun σ' H' ⟨own', ρ', k', er', s', f⟩ => ?_)
        · unfold Src
          rw [if_neg (by decide)]
          exact s'.kp
        · obtain ⟨d, hd, yd⟩ := hY i H' x H2 hi hy
          obtain ⟨er2, s2, qx⟩ := yd.rpO s' er'
          have e : l.drop i = d :: l.drop (i + 1) := by
            rw [List.drop_eq_getElem_cons hi]
            congr 1
            exact (List.getElem?_eq_some_iff.mp hd).2
          rw [e] at f
          unfold forL at f
          cases hb : bindT tg d ρ' with
          | none => rw [hb] at f; exact f.elim
          | some ρ1 =>
            rw [hb] at f
            dsimp only at f
            have f := FinO.later (OS.stp s2 er2) f
            refine ⟨B, own', ρ', k', d, ρ1, er2, qx, hb, fun σ2 er3 o3 => ?_⟩
            have f := FinO.later (OS.less (sl := tgSl tg)) f
            refine ⟨B, _, ρ1, k', er3, ?_⟩
            have s3 : OS B own H1 (lessL own' (tgSl tg)) H2 := (s'.trans (OS.stp s2 er2)).trans OS.less
            cases hx : exes g b ρ1 k' with
            | nx ρ3 k3 =>
              rw [hx] at f
              exact fun own4 σ4 H4 er4 s4 => ⟨own4, ρ3, k3, er4, s3.trans s4, FinO.later s4 f⟩
            | ct ρ3 k3 =>
              rw [hx] at f
              exact fun own4 σ4 H4 er4 s4 => ⟨own4, ρ3, k3, er4, s3.trans s4, FinO.later s4 f⟩
            | bk ρ3 k3 =>
              rw [hx] at f
              exact fun own4 σ4 H4 er4 s4 => f own4 σ4 H4 er4 s4
            | rt _ _ => rw [hx] at f; exact f
            | ex _ _ => rw [hx] at f; exact f
            | no => rw [hx] at f; exact f
        · rw [List.drop_length] at f
          exact f own' σ' H' er' (OS.stp Stp.refl er')
/-- a value comes into a slot -/
theorem put_of {B : Bs} {own : Nat → Option Addr} {ρ : Rho} {k k1 : Nat} {σ : L2.St} {H H1 : Hp} {i : Nat} {o : Bool} {kd : Kd} {d : D} {v : V} {E : Ends} (er : ER p.K B own ρ k σ H) (s : Stp B H H1) (er1 : ER p.K B own ρ k1 σ H1) (q : RV p.K B own H H1 kd v d)
    (f : FinO p W B own H E (putS ρ i (setSV o kd d) k1)) : E.nx (σ.set i (some v)) H1 := by
  cases hs : setSV o kd d with
  | none => rw [hs] at f; exact f.elim
  | some sv =>
    rw [hs] at f
    unfold putS at f
    simp only at f
    split at f
    · rename_i hi
      unfold setSV at hs
      split at hs
      · -- one of its own
        have key : ∀ {q0 : Addr}, H q0 = none → NewAt p.K B own H1 q0 sv → E.nx (σ.set i (some (.ref q0))) H1 := fun {q0} h1 n => f _ _ _ (ER.putOwn er s er1 hi h1 n) (OS.putOwn s er1 h1)
        split at hs
        · cases hs
          obtain ⟨p0, rfl, h1, h2, h3⟩ := q
          rcases h3 with ⟨l', e, h4⟩ | ⟨l', e, h4⟩
          · cases e; exact key h1 h4
          · cases e
        · cases hs
          obtain ⟨p0, rfl, h1, h2, h3⟩ := q
          rcases h3 with ⟨l', e, h4⟩ | ⟨l', e, h4⟩
          · cases e
          · cases e; exact key h1 h4
        · cases hs
      · split at hs
        · cases hs
        · rename_i hk
          cases hs
          exact f _ _ _ (er1.put hi (q.plain hk)) ((OS.stp s er1).trans OS.less)
    · exact f.elim
theorem set_imp {i : Nat} {o : Bool} {e : E} {σ : L2.St} {H : Hp} {D : Ends} (h : tS p W g (.set i o e) D σ H) : tAsg (tE p W g e) (gName i) D σ H := by
  obtain ⟨B, own, ρ, k, er, f⟩ := h
  unfold exe at f
  refine ⟨B, own, ρ, k, er, ?_⟩
  cases he : ev g e ρ k with
  | no => rw [he] at f; exact f
  | ex x kk =>
    rw [he] at f
    exact fun cls dx H' er' s' q => f cls dx own ρ σ H' er' (OS.stp s' er') q
  | ok r =>
    rw [he] at f
    exact fun v H' er' s' q => put_of er s' er' q f
theorem s_set (G : GoodS p c C g X W) {i : Nat} {o : Bool} {e : E} {x : Str} {px : Pos} {y : Expr} (hN : C.N[i]? = some x) (hl : Loc X.env.scope x) (h : PE X y (tE p W g e)) (hp : plainX y = true) (hs : swB X.env.scope x px y = false) : PS X (.Assign [.Name x px] y pos) (tS p W g (.set i o e)) :=
  (ps_set (i := i) (pos' := px) (by rw [G.good.N]; exact G.good.nd) (by rw [G.good.N]; exact hN) hl h (sw_no G.kind hp hs) (.inl (congrFun (GoodS.fn G) x))).imp fun D σ H h => set_imp h
theorem sw_yes {e : Expr} {gs : List Comprehension} {s : Scope} {q : Pos} {x : Str} {px : Pos} {l : Nat} {env : Env} (hk : env.scope.kind = .function) (h : swB env.scope x px (.ListComp e gs s q) = true) : env.scope.names.lookup x = some .local ∧ swapsWith (.ListComp e gs s q) (some (.Name x px)) l env = pure true := by
  unfold swB at h
  simp only [Bool.and_eq_true, Bool.not_eq_true'] at h
  have h1 := of_decide_eq_true h.1.1
  exact ⟨h1, sw_true hk h1 h.1.2 h.2⟩
theorem s_app (G : GoodS p c C g X W) {i : Nat} {e : E} {x : Str} {p1 p2 p3 : Pos} {y : Expr} (hN : C.N[i]? = some x) (hv : visB X.env.scope x = true) (hn : nmOk x = true) (h : PE X y (tE p W g e)) (hp : plainX y = true) (hl : p2.endLine = p3.line) :
    PS X (.Expr (.Call (.Attribute (.Name x p1) "append" p2) [y] [] p3) pos) (tS p W g (.app i e)) := by
  have st := plain_star (xs := []) (env := X.env) hp
  have pl : backTo p3 (starEach [y] X.env) = [(false, (backTo p3 (starEach [y] X.env)).head!.2)] := by rw [st]; rfl
  refine (ps_expr (pe_bm PySem.F.plainAttrs_list PySem.F.slot_list_append PySem.F.type_list_append mt_append (pe_var (i := i) (by rw [G.good.N]; exact hN) (vis_of hv) (nm_of hn).1 (nm_of hn).2.1) (pa_cons h pa_nil st) rfl ?_ ?_ st ?_) rfl).imp fun D σ H ⟨B, own, ρ, k, er, f⟩ => ?_
  · rw [st]; rfl
  · rw [hl]; exact beq_self_eq_true _
  · rfl
  · unfold exe at f
    cases ht : (decide (kdOf ρ e = .tr)) with
    | true => rw [if_pos (of_decide_eq_true ht)] at f; exact f.elim
    | false =>
      have ht := of_decide_eq_false ht
      rw [if_neg ht] at f
      have hi : ∃ l, ρ[i]? = some (some (.own l)) := by
        split at f
        · exact ⟨_, by assumption⟩
        · exact f.elim
      obtain ⟨l, hi⟩ := hi
      rw [hi] at f
      simp only at f
      obtain ⟨v, ev1, a, oa, rfl, vs, ha, hz, hr⟩ := er.slot i _ hi
      refine ⟨_, ev1, .inl ⟨rfl, vs, SqL.of ha⟩, ?_⟩
      refine tE.go er f fun d k1 u H1 er1 s1 q1 f => ?_
      obtain ⟨v', ev2, a', oa', ee, vs, ha, hz, hr⟩ := er1.slot i _ hi
      rw [ev1] at ev2
      cases ev2
      cases ee
      split at f
      · rename_i hlim
        have hlen : vs.length < sizeLine := by
          have := lim_le hlim
          rw [hr.length]
          omega
        refine ⟨a, vs, u, rfl, rfl, ha, hlen, f own _ _ (ER.upOwn (sv := .own (l ++ [d])) er1 oa (fun xs => ⟨(fun z => nomatch z), fun _ _ z => nomatch z⟩) rfl fun hm => ?_) (OS.upOwn oa)⟩
        exact ⟨a, oa, rfl, vs ++ [u], upd_same, by rw [List.length_append, List.length_singleton]; omega, (hr.mono hm).append (.cons ((q1.plain ht).mono hm) .nil)⟩
      · exact f.elim
end
end Y

namespace Y
open PySem PySem.W PySem.Spec PyProof.Rows L2
variable [TownS]
section
variable {p : Par} {c : Cnt} {C : Ck} {g : G} {X : Cx} {W : WX} {pos : Pos}
theorem keyK_flat {d : D} (h : keyK d = true) : flat d = true := by
  cases d <;> first | rfl | (simp [keyK] at h)
theorem keyOk_flat {t : Bool} {d : D} (h : keyOk t d = true) : flat d = true := by
  cases t with
  | false => exact keyK_flat (by simpa [keyOk] using h)
  | true =>
    unfold keyOk at h
    split at h
    · rename_i e; cases e
    · rw [Bool.and_eq_true] at h
      simp only [flat, flats, keyK_flat h.1, keyK_flat h.2, Bool.and_self]
    · cases h
theorem keyOk_hid {B : Bs} {own : Nat → Option Addr} {ρ : Rho} {k : Nat} {σ : L2.St} {H : Hp} {t : Bool} (er : ER p.K B own ρ k σ H) {v : V} {d : D} (q : Rp p.K (Hd H B.P0) v d) (h : keyOk t d = true) : Rp p.K (Hd H (hid B own)) v d := flat_hid er q (keyOk_flat h)
theorem s_put (G : GoodS p c C g X W) {i : Nat} {e f : E} {x : Str} {p1 p2 : Pos} {y z : Expr} (hN : C.N[i]? = some x) (hv : visB X.env.scope x = true) (hn : nmOk x = true) (h : PE X y (tE p W g e)) (hz : PE X z (tE p W g f)) (hp : noComp z = true) :
    PS X (.Assign [.Subscript (.Name x p1) y p2] z pos) (tS p W g (.put i e f)) :=
  (ps_dput (by have := G.good.u65; omega) (pe_var (i := i) (by rw [G.good.N]; exact hN) (vis_of hv) (nm_of hn).1 (nm_of hn).2.1) h hz (noComp_sw hp)).imp fun D σ H ⟨B, own, ρ, k, er, ff⟩ => by
    unfold exe at ff
    cases ht : (decide (kdOf ρ f = .tr)) with
    | true => rw [if_pos (of_decide_eq_true ht)] at ff; exact ff.elim
    | false =>
      have ht := of_decide_eq_false ht
      rw [if_neg ht] at ff
      have hi : ∃ t l, ρ[i]? = some (some (.ownd t l)) := by
        split at ff
        · exact ⟨_, _, by assumption⟩
        · exact ff.elim
      obtain ⟨t, l, hi⟩ := hi
      rw [hi] at ff
      dsimp only at ff
      refine tE.go er ff fun d k1 u H1 er1 s1 q1 ff => ?_
      obtain ⟨v', ev2, a, oa, rfl, dr⟩ := er1.slot i _ hi
      refine ⟨_, ev2, ?_⟩
      refine tE.go er1 ff fun y k2 w H2 er2 s2 q2 ff => ?_
      have q3 := (q1.later er1 s2).plain ht
      have q4 := q2.weak er2
      obtain ⟨v', ev3, a', oa', ee, dr⟩ := er2.slot i _ hi
      rw [ev2] at ev3
      cases ev3
      cases ee
      split at ff
      · rename_i hk
        rw [Bool.and_eq_true] at hk
        have q5 : Rp p.K (Hd H2 (hid B own)) w y := keyOk_hid er2 q4 hk.1
        obtain ⟨o, d1, d2, d3⟩ := dr.put q5 hk.1 q3 hk.2
        refine ⟨a, _, rfl, d1, ff own _ _ (ER.upOwn (sv := .ownd t (dput l y d)) er2 oa d2 rfl fun hm => ?_) (OS.upOwn oa)⟩
        exact ⟨a, oa, rfl, d3 _ _ upd_same hm⟩
      · exact ff.elim

def ipB : Bin → TIp
  | .add => ipI fun i j => i + j
  | .sub => ipI fun i j => i - j
  | _ => fun _ _ _ _ => False
theorem ip_bin (o : Bin) : PIp X (binOp o) (ipB o) := by
  cases o with
  | add => exact ip_add
  | sub => exact ip_sub
  | _ => intro pins s σ H x y v u Q I r1 r2 h; exact h.elim
theorem s_aug (G : GoodS p c C g X W) {i : Nat} {o : Bin} {e : E} {x : Str} {px : Pos} {y : Expr} (hN : C.N[i]? = some x) (hl : Loc X.env.scope x) (h : PE X y (tE p W g e)) : PS X (.AugAssign (.Name x px) (binOp o) y pos) (tS p W g (.aug i o e)) :=
  (ps_aug (i := i) (pos' := px) (by rw [G.good.N]; exact G.good.nd) (by rw [G.good.N]; exact hN) hl h (ip_bin o) (.inl (congrFun (GoodS.fn G) x))).imp fun D σ H ⟨B, own, ρ, k, er, f⟩ => by
    unfold exe at f
    have hi : ∃ d, ρ[i]? = some (some (.d d)) := by
      split at f
      · exact ⟨_, by assumption⟩
      · exact f.elim
    obtain ⟨d, hi⟩ := hi
    rw [hi] at f
    dsimp only at f
    obtain ⟨v, e1, q⟩ := er.slot i _ hi
    refine ⟨v, e1, ?_⟩
    refine tE.go er f fun d2 k1 u H1 er1 s1 q1 f => ?_
    cases hz : augD o d d2 with
    | none => rw [hz] at f; exact f.elim
    | some z =>
      rw [hz] at f
      dsimp only at f
      have fin : ∀ {n : Int}, z = .int n → D.nx (σ.set i (some (.int n))) H1 := fun {n} e => by
        subst e
        exact put_of (o := false) (kd := .pl) er1 Stp.refl er1 (.int n) f
      unfold augD at hz
      split at hz
      · cases hz
        exact ⟨_, _, Rp.int_inv q, (q1.weak er1).int_inv, fin rfl⟩
      · cases hz
        exact ⟨_, _, Rp.int_inv q, (q1.weak er1).int_inv, fin rfl⟩
      · cases hz
/-- the stores are not exchanged -/
def swNone (sc : Scope) : Expr → Expr → Bool
  | .Tuple ts _ _, .Tuple vs _ _ => (ts.any fun
      | .Name x _ => !decide (sc.names.lookup x = some .local)
      | _ => true) || !(ts.length == 2 || ts.length == 3)
  | .Tuple _ _ _, _ => true
  | _, _ => false
theorem fm_len {α β : Type} {f : α → Option β} : ∀ {l : List α}, (l.any fun a => (f a).isNone) = true → ((l.filterMap f).length != l.length) = true
  | [], h => by simp at h
  | a :: l, h => by
    have le : (l.filterMap f).length ≤ l.length := List.length_filterMap_le f l
    cases e : f a with
    | none =>
      rw [List.filterMap_cons_none e, List.length_cons]
      simp only [bne_iff_ne, ne_eq]
      omega
    | some b =>
      rw [List.filterMap_cons_some e, List.length_cons, List.length_cons]
      rw [List.any_cons, e] at h
      have ih := fm_len (l := l) (by simpa using h)
      simp only [bne_iff_ne, ne_eq] at ih ⊢
      omega
theorem swNone_ok {t v : Expr} (h : swNone X.env.scope t v = true) : swappedStores [t] v X.env = pure none := by
  unfold swNone at h
  split at h
  · rename_i ts k1 q1 vs k2 q2
    unfold swappedStores
    simp only
    split
    · rfl
    · rename_i h1
      split
      · rfl
      · rw [if_pos]
        rw [Bool.or_eq_true] at h
        rcases h with h | h
        · rw [Bool.or_eq_true]
          refine .inl (fm_len (List.any_eq_true.mpr ?_))
          obtain ⟨a, ha, hb⟩ := List.any_eq_true.mp h
          refine ⟨a, ha, ?_⟩
          cases a with
          | Name x pos =>
            have hb : ¬ X.env.scope.names.lookup x = some .local := by simpa using hb
            show (if (X.env.scope.names.lookup x == some NameKind.local && _) = true then some x else none).isNone = true
            rw [if_neg]
            · rfl
            · intro z
              rw [Bool.and_eq_true] at z
              exact hb (by simpa using z.1)
          | _ => rfl
        · rw [h] at h1
          simp at h1
  · rename_i hv
    unfold swappedStores
    cases v <;> first | rfl | (exact (hv _ _ _ rfl).elim)
  · cases h
end
end Y

namespace Y
open PySem PySem.W PySem.Spec PyProof.Rows L2
variable [TownS]
section
variable {p : Par} {c : Cnt} {C : Ck} {g : G} {X : Cx} {W : WX} {pos : Pos}
theorem s_unp (G : GoodS p c C g X W) {tg : Tg} {e : E} {t y : Expr} (hg : PG X t (tG p tg)) (h : PE X y (tE p W g e)) (ht : isTupX t = true) (hn : noComp y = true) (hs : swNone X.env.scope t y = true) : PS X (.Assign [t] y pos) (tS p W g (.unp tg e)) :=
  (ps_asg h hg (noComp_sole hn) (swNone_ok hs) (by cases t <;> first | rfl | (simp [isTupX] at ht))).imp fun D σ H ⟨B, own, ρ, k, er, f⟩ => by
    unfold exe at f
    cases htr : (decide (kdOf ρ e = .tr)) with
    | true => rw [if_pos (of_decide_eq_true htr)] at f; exact f.elim
    | false =>
      have htr := of_decide_eq_false htr
      rw [if_neg htr] at f
      refine tE.go er f fun d k1 v H1 er1 s1 q1 f => ?_
      cases hb : bindT tg d ρ with
      | none => rw [hb] at f; exact f.elim
      | some ρ1 =>
        rw [hb] at f
        exact ⟨B, own, ρ, k1, d, ρ1, er1, q1.plain htr, hb, fun σ2 er2 o2 => f _ σ2 H1 er2 ((OS.stp Stp.refl er1).trans OS.less)⟩
end
/-! ### some at once -/
def setAll (σ : L2.St) : List Nat → List V → L2.St
  | i :: is, v :: vs => setAll (σ.set i (some v)) is vs
  | _, _ => σ
def tPars (is : List Nat) (ta : TA) : TS := fun D σ H => ta σ H fun vs H1 => vs.length = is.length ∧ ∀ H2, Same H1 H2 → D.nx (setAll σ is vs) H2
def tNames (is : List Nat) : TGs := fun vs σ H Q => vs.length = is.length ∧ Q (setAll σ is vs) H
/-- names, their slots -/
def nmsB (N : List Str) (sc : Scope) : List Nat → List Expr → Bool
  | [], [] => true
  | i :: is, .Name x _ :: es => decide (N[i]? = some x) && locB (fun _ => true) sc x && nmsB N sc is es
  | _, _ => false
def locN (sc : Scope) (l : Nat) : Expr → Option Str
  | .Name id pos => if sc.names.lookup id == some .local && pos.line == l then some id else none
  | _ => none
def notStar : Expr → Bool
  | .Starred .. => false
  | _ => true
/-- the stores are exchanged -/
def swSome (sc : Scope) (ts vs : List Expr) : Bool :=
  (ts.length == 2 || ts.length == 3) && vs.length == ts.length && vs.all notStar && (ts.all fun t => (locN sc ((ts.head?.map (·.pos.line)).getD 0) t).isSome) && decide ((ts.filterMap (locN sc ((ts.head?.map (·.pos.line)).getD 0))).eraseDups.length = (ts.filterMap (locN sc ((ts.head?.map (·.pos.line)).getD 0))).length) &&
  !(vs.all (foldedForSure 8)) && !(vs.all (constantsAlone 8))
section
variable {X : Cx} {pos : Pos}
theorem loc_of {sc : Scope} {x : Str} (h : locB (fun _ => true) sc x = true) : Loc sc x := by
  unfold locB at h
  split at h
  · rename_i e; exact .inl e
  · rename_i e; exact .inr e
  · cases h
theorem nms_len {N : List Str} {sc : Scope} : ∀ {is : List Nat} {es : List Expr}, nmsB N sc is es = true → es.length = is.length
  | [], [], _ => rfl
  | i :: is, .Name x q :: es, h => by
    simp only [nmsB, Bool.and_eq_true] at h
    rw [List.length_cons, List.length_cons, nms_len h.2]
  | [], _ :: _, h => by simp [nmsB] at h
  | _ :: _, [], h => by simp [nmsB] at h
theorem nms_each {N : List Str} {sc : Scope} {env : Env} : ∀ {is : List Nat} {es : List Expr}, nmsB N sc is es = true → (assignEach es env).length = es.length ∧ (assignEach es env).findIdx? (·.1) = none
  | [], [], _ => ⟨rfl, rfl⟩
  | i :: is, .Name x q :: es, h => by
    simp only [nmsB, Bool.and_eq_true] at h
    obtain ⟨h1, h2⟩ := nms_each (env := env) h.2
    have e0 : assignEach (.Name x q :: es) env = (false, assign (.Name x q) env) :: assignEach es env := rfl
    rw [e0]
    exact ⟨by rw [List.length_cons, List.length_cons, h1], by rw [List.findIdx?_cons, h2]; rfl⟩
  | [], _ :: _, h => by simp [nmsB] at h
  | _ :: _, [], h => by simp [nmsB] at h
theorem pgs_names (hN : X.N.Nodup) (hf : X.fn = fun _ => true) : ∀ {is : List Nat} {es : List Expr}, nmsB X.N X.env.scope is es = true → PGs X es (tNames is)
  | [], [], _ => pgs_nil.imp fun vs σ H Q ⟨h, q⟩ => ⟨List.length_eq_zero_iff.mp h, by
    have e : vs = [] := List.length_eq_zero_iff.mp h
    subst e
    exact q⟩
  | i :: is, .Name x q0 :: es, h => by
    simp only [nmsB, Bool.and_eq_true] at h
    refine (pgs_cons (pg_name (i := i) hN (of_decide_eq_true h.1.1) (loc_of h.1.2) (.inl (congrFun hf x))) (pgs_names hN hf h.2)).imp fun vs σ H Q ⟨hl, q⟩ => ?_
    cases vs with
    | nil => simp at hl
    | cons v vs => exact ⟨v, vs, rfl, by simpa using hl, q⟩
  | [], _ :: _, h => by simp [nmsB] at h
  | _ :: _, [], h => by simp [nmsB] at h
theorem swSome_ok {ts vs : List Expr} {k1 k2 : Nat} {q1 q2 : Pos} (hk : X.env.scope.kind = .function) (h : swSome X.env.scope ts vs = true) :
    swappedStores [.Tuple ts k1 q1] (.Tuple vs k2 q2) X.env = pure (some (ts.filterMap (locN X.env.scope ((ts.head?.map (·.pos.line)).getD 0)))) := by
  unfold swSome at h
  simp only [Bool.and_eq_true, Bool.not_eq_true'] at h
  obtain ⟨⟨⟨⟨⟨⟨h1, h2⟩, h3⟩, h4⟩, h5⟩, h6⟩, h7⟩ := h
  have hb : (X.env.blockKind != .function) = false := by unfold Env.blockKind; rw [hk]; rfl
  unfold swappedStores
  simp only
  rw [if_neg (by rw [h1, hb]; simpa using h2), if_neg]
  · have hlen : ∀ {l : Nat} {xs : List Expr}, (xs.all fun t => (locN X.env.scope l t).isSome) = true → (xs.filterMap (locN X.env.scope l)).length = xs.length := by
      intro l xs hx
      induction xs with
      | nil => rfl
      | cons a xs ih =>
        rw [List.all_cons, Bool.and_eq_true] at hx
        obtain ⟨b, hb⟩ := Option.isSome_iff_exists.mp hx.1
        rw [List.filterMap_cons_some hb, List.length_cons, List.length_cons, ih hx.2]
    have e4 := hlen h4
    have e5 := of_decide_eq_true h5
    generalize hF : List.filterMap _ ts = F
    have hF2 : F = ts.filterMap (locN X.env.scope ((ts.head?.map (·.pos.line)).getD 0)) := by
      rw [← hF]
      congr 1
    rw [hF2, if_neg, if_neg (by rw [h6]; decide), if_neg (by rw [h7]; decide)]
    simp only [Bool.or_eq_true, bne_iff_ne, ne_eq, not_or, Decidable.not_not]
    exact ⟨e4, e5⟩
  · intro z
    obtain ⟨a, ha, hb⟩ := List.any_eq_true.mp z
    have := List.all_eq_true.mp h3 a ha
    cases a <;> first | (exact absurd this Bool.false_ne_true) | (exact absurd hb Bool.false_ne_true)

theorem locN_inv {sc : Scope} {l : Nat} {x : Str} {q : Pos} (h : (locN sc l (.Name x q)).isSome = true) : sc.names.lookup x = some .local ∧ locN sc l (.Name x q) = some x := by
  unfold locN at h ⊢
  simp only at h ⊢
  split at h
  · rename_i e
    rw [if_pos e]
    rw [Bool.and_eq_true] at e
    exact ⟨by simpa using e.1, rfl⟩
  · cases h
theorem nms_cons {N : List Str} {sc : Scope} {i : Nat} {is : List Nat} {es : List Expr} (h : nmsB N sc (i :: is) es = true) : ∃ x q es', es = .Name x q :: es' ∧ N[i]? = some x ∧ nmsB N sc is es' = true := by
  unfold nmsB at h
  split at h
  · rename_i e; cases e
  · rename_i e
    cases e
    simp only [Bool.and_eq_true] at h
    exact ⟨_, _, _, rfl, of_decide_eq_true h.1.1, h.2⟩
  · cases h
theorem nms_nil {N : List Str} {sc : Scope} {es : List Expr} (h : nmsB N sc [] es = true) : es = [] := by
  cases es with
  | nil => rfl
  | cons _ _ => simp [nmsB] at h
theorem ps_pars (hc : X.calm = true) (hN : X.N.Nodup) (hf : X.fn = fun _ => true) (hk : X.env.scope.kind = .function) {is : List Nat} {ts vs : List Expr} {ta : TA} {k1 k2 : Nat} {q1 q2 : Pos} (hn : nmsB X.N X.env.scope is ts = true) (hd : is.Nodup)
    (hs : (swNone X.env.scope (.Tuple ts k1 q1) (.Tuple vs k2 q2) || swSome X.env.scope ts vs) = true) (hm : ∀ σ H (Q Q' : List V → Hp → Prop), (∀ us H1, Q us H1 → Q' us H1) → ta σ H Q → ta σ H Q') (hz : lim is.length = true) (ha : PA X vs ta) :
    PS X (.Assign [.Tuple ts k1 q1] (.Tuple vs k2 q2) pos) (tPars is ta) := by
  have hlen := nms_len hn
  obtain ⟨e1, e2⟩ := nms_each (env := X.env) hn
  rw [Bool.or_eq_true] at hs
  rcases hs with hs | hs
  · refine (ps_asg (pe_tup ha) (pg_tup hc (pgs_names hN hf hn) e1 e2) (noComp_sole rfl) (swNone_ok hs) rfl).imp fun D σ H h => ?_
    refine hm _ _ _ _ (fun us H1 ⟨q1, q2⟩ => ?_) h
    refine ⟨by rw [q1]; exact lim_le hz, fun t ht => ⟨t, us, rfl, .inl (.inl upd_same), by rw [q1, hlen], q1, q2 _ (same_new ht)⟩⟩
  · have hsw := swSome_ok (k1 := k1) (k2 := k2) (q1 := q1) (q2 := q2) hk hs
    unfold swSome at hs
    simp only [Bool.and_eq_true] at hs
    obtain ⟨⟨⟨⟨⟨⟨h1, h2⟩, h3⟩, h4⟩, h5⟩, h6⟩, h7⟩ := hs
    have h2 : vs.length = ts.length := by simpa using h2
    rw [hlen] at h1 h2
    match is, vs, h1, h2 with
    | [i, j], [a, b], _, _ =>
      obtain ⟨x, px, _, rfl, n1, hn⟩ := nms_cons hn
      obtain ⟨y, py, _, rfl, n2, hn⟩ := nms_cons hn
      cases nms_nil hn
      simp only [List.all_cons, Bool.and_eq_true, List.all_nil] at h4
      obtain ⟨l1, m1⟩ := locN_inv h4.1
      obtain ⟨l2, m2⟩ := locN_inv h4.2.1
      have hij : i ≠ j := by
        intro e
        subst e
        simp at hd
      refine (ps_par hc hN n1 n2 hij l1 l2 ha ?_ rfl).imp fun D σ H h => ?_
      · rw [hsw]
        rw [List.filterMap_cons_some m1, List.filterMap_cons_some m2]
        rfl
      · refine hm _ _ _ _ (fun us H1 ⟨q1, q2⟩ => ?_) h
        match us, q1 with
        | [u, v], _ => exact ⟨u, v, rfl, q2 H1 (Same.refl H1)⟩
    | [i, j, l], [a, b, d], _, _ =>
      obtain ⟨x, px, _, rfl, n1, hn⟩ := nms_cons hn
      obtain ⟨y, py, _, rfl, n2, hn⟩ := nms_cons hn
      obtain ⟨z, pz, _, rfl, n3, hn⟩ := nms_cons hn
      cases nms_nil hn
      simp only [List.all_cons, Bool.and_eq_true, List.all_nil] at h4
      obtain ⟨l1, m1⟩ := locN_inv h4.1
      obtain ⟨l2, m2⟩ := locN_inv h4.2.1
      obtain ⟨l3, m3⟩ := locN_inv h4.2.2.1
      simp only [List.nodup_cons, List.mem_cons, List.not_mem_nil, or_false, not_or, not_false_eq_true, List.nodup_nil, and_true] at hd
      refine (ps_par3 hc hN n1 n2 n3 hd.1.1 hd.1.2 hd.2 l1 l2 l3 ha ?_ rfl).imp fun D σ H h => ?_
      · rw [hsw]
        rw [List.filterMap_cons_some m1, List.filterMap_cons_some m2, List.filterMap_cons_some m3]
        rfl
      · refine hm _ _ _ _ (fun us H1 ⟨q1, q2⟩ => ?_) h
        match us, q1 with
        | [u, v, w], _ => exact ⟨u, v, w, rfl, q2 H1 (Same.refl H1)⟩
    | [], _, h1, _ => simp at h1
    | [_], _, h1, _ => simp at h1
    | [_, _], [], _, h2 => simp at h2
    | [_, _], [_], _, h2 => simp at h2
    | [_, _], _ :: _ :: _ :: _, _, h2 => simp at h2
    | [_, _, _], [], _, h2 => simp at h2
    | [_, _, _], [_], _, h2 => simp at h2
    | [_, _, _], [_, _], _, h2 => simp at h2
    | [_, _, _], _ :: _ :: _ :: _ :: _, _, h2 => simp at h2
    | _ :: _ :: _ :: _ :: _, _, h1, _ => simp at h1
end
end Y

namespace Y
open PySem PySem.W PySem.Spec PyProof.Rows L2
variable [TownS]
/-- some addresses more are kept apart -/
def Bs.ands (B : Bs) (L : List Addr) : Bs := { B with P0 := fun a => B.P0 a ∨ a ∈ L, tp := fun t f h => .inl (B.tp t f h) }
section
variable {K : PySem.W.Frag} {B : Bs} {own : Nat → Option Addr} {ρ : Rho} {k k1 : Nat} {σ : L2.St} {H H0 H1 H' : Hp} {L L' : List Addr} {q : Addr} {i : Nat}
theorem ands_hid {a : Addr} : hid (B.ands L) own a ↔ hid B own a ∨ a ∈ L := by
  unfold hid Bs.ands
  constructor
  · rintro ((h | h) | h)
    · exact .inl (.inl h)
    · exact .inr h
    · exact .inl (.inr h)
  · rintro ((h | h) | h)
    · exact .inl (.inl h)
    · exact .inr h
    · exact .inl (.inr h)
theorem SVR.hd {B B' : Bs} {own own' : Nat → Option Addr} {H H' : Hp} {v : V} {sv : SV} (ho : ∀ a, own i = some a → own' i = some a) (hT : ∀ a, B.isT a → B'.isT a) (hA : ∀ a, own i = some a → ∀ o, H a = some o → H' a = some o) (hd : ∀ a o, Hd H (hid B own) a = some o → Hd H' (hid B' own') a = some o) (q : SVR K B own H i v sv) : SVR K B' own' H' i v sv := by
  cases sv with
  | d x => exact Rp.mono hd q
  | own l =>
    obtain ⟨a, h1, h2, h3⟩ := q
    exact ⟨a, ho a h1, h2, h3.step (hA a h1) hd⟩
  | ownd t l =>
    obtain ⟨a, h1, h2, h3⟩ := q
    exact ⟨a, ho a h1, h2, h3.step (hA a h1) hd⟩
  | town =>
    obtain ⟨a, h1, h2⟩ := q
    exact ⟨a, hT a h1, h2⟩
  | scr => exact Rp.mono hd q
/-- one that is new since H0 is kept apart, too -/
theorem ER.ands1 (r0 : ER K (B.ands L) own ρ k σ H0) (s : Stp B H0 H1) (r1 : ER K (B.ands L) own ρ k1 σ H1) (hq : H0 q = none) (hn : H1 q ≠ none) : ER K (B.ands (L ++ [q])) own ρ k1 σ H1 := by
  have nq : ¬ hid (B.ands L) own q := fun z => r0.dom z hq
  have hd : ∀ a o, Hd H0 (hid (B.ands L) own) a = some o → Hd H1 (hid (B.ands (L ++ [q])) own) a = some o := fun a o e => by
    have e1 := Hd.le a o e
    refine Hd.at (fun h => ?_) (s a o e1 fun t => Hd.np e (isT_hid t))
    rcases ands_hid.mp h with h | h
    · exact Hd.np e (ands_hid.mpr (.inl h))
    · rcases List.mem_append.mp h with h | h
      · exact Hd.np e (ands_hid.mpr (.inr h))
      · rw [List.mem_singleton.mp h, hq] at e1
        cases e1
  exact {
    len := r1.len
    inj := r1.inj
    dom0 := fun a h => by
      rcases h with h | h
      · exact r1.dom0 a (.inl h)
      · rcases List.mem_append.mp h with h | h
        · exact r1.dom0 a (.inr h)
        · rw [List.mem_singleton.mp h]; exact hn
    np := fun j a h z => by
      rcases z with z | z
      · exact r1.np j a h (.inl z)
      · rcases List.mem_append.mp z with z | z
        · exact r1.np j a h (.inr z)
        · rw [List.mem_singleton.mp z] at h
          exact nq (.inr ⟨j, h⟩)
    kind := r1.kind
    new := r1.new
    base := r1.base
    town := r1.town
    slot := fun j sv e => by
      obtain ⟨u, h1, h2⟩ := r0.slot j sv e
      exact ⟨u, h1, SVR.hd (B := B.ands L) (fun a h => h) (fun a h => h) (fun a h o e => s a o e (r0.notT h)) hd h2⟩ }
theorem ER.unands (r : ER K (B.ands L) own ρ k σ H) : ER K B own ρ k σ H where
  len := r.len
  inj := r.inj
  dom0 := fun a h => r.dom0 a (.inl h)
  np := fun i a h z => r.np i a h (.inl z)
  kind := r.kind
  new := r.new
  base := r.base
  town := r.town
  slot := fun i sv e => by
    obtain ⟨u, h1, h2⟩ := r.slot i sv e
    exact ⟨u, h1, SVR.hd (B := B.ands L) (fun a h => h) (fun a h => h) (fun a h o e => e) (Hd.less fun a h => ands_hid.mpr (.inl h)) h2⟩
theorem ands_nil : B.ands [] = B := by
  unfold Bs.ands
  cases B
  simp
/-- what is kept apart becomes a slot's own -/
def NewIn (K : PySem.W.Frag) (H G : Hp) (q : Addr) : SV → Prop
  | .own l => OwnL K H G q l
  | .ownd t l => DcR K H G q t l
  | _ => False
theorem NewIn.isown {G : Hp} {sv : SV} (h : NewIn K H G q sv) : isOwn sv = true := by
  cases sv <;> first | rfl | exact h.elim
theorem NewIn.at {G : Hp} {sv : SV} (h : NewIn K H G q sv) : ∃ o, H q = some o ∧ ∀ xs, o ≠ .tup xs ∧ ∀ ob u, o ≠ .frz ob u := by
  cases sv with
  | own l =>
    obtain ⟨vs, e, _⟩ := h
    exact ⟨_, e, fun xs => ⟨(fun z => nomatch z), fun _ _ z => nomatch z⟩⟩
  | ownd t l =>
    rcases h with ⟨_, ks, ds, e, _⟩ | ⟨_, ks, ds, e, _⟩
    · exact ⟨_, e, fun xs => ⟨(fun z => nomatch z), fun _ _ z => nomatch z⟩⟩
    · exact ⟨_, e, fun xs => ⟨(fun z => nomatch z), fun _ _ z => nomatch z⟩⟩
  | d _ => exact h.elim
  | town => exact h.elim
  | scr => exact h.elim
theorem take_hid {a : Addr} (h : hid (B.ands L) (setO own i q) a) : hid (B.ands (q :: L)) own a := by
  rcases ands_hid.mp h with h | h
  · rcases setO_hid h with h | h
    · exact ands_hid.mpr (.inl h)
    · exact ands_hid.mpr (.inr (by rw [h]; exact List.mem_cons_self))
  · exact ands_hid.mpr (.inr (List.mem_cons_of_mem _ h))
theorem ER.take {sv : SV} {G : Hp} (r : ER K (B.ands (q :: L)) own ρ k σ H) (hi : i < ρ.length) (hqL : q ∉ L) (nq : ¬ hid B own q) (h0 : B.H0 q = none) (n : NewIn K H G q sv) (hG : ∀ a o, G a = some o → Hd H (hid (B.ands (q :: L)) own) a = some o) :
    ER K (B.ands L) (setO own i q) (ρ.set i (some sv)) k (σ.set i (some (.ref q))) H := by
  have hd : ∀ a o, Hd H (hid (B.ands (q :: L)) own) a = some o → Hd H (hid (B.ands L) (setO own i q)) a = some o := Hd.less fun a h => take_hid h
  obtain ⟨oq, eq, tq⟩ := n.at
  have ne : ∀ {j b}, own j = some b → b ≠ q := fun h e => nq (.inr ⟨_, e ▸ h⟩)
  exact {
    len := by rw [List.length_set, List.length_set]; exact r.len
    inj := fun j l b h1 h2 => by
      by_cases e1 : j = i <;> by_cases e2 : l = i
      · rw [e1, e2]
      · subst e1
        rw [setO_self] at h1
        rw [setO_ne e2] at h2
        cases h1
        exact (ne h2 rfl).elim
      · subst e2
        rw [setO_self] at h2
        rw [setO_ne e1] at h1
        cases h2
        exact (ne h1 rfl).elim
      · rw [setO_ne e1] at h1
        rw [setO_ne e2] at h2
        exact r.inj j l b h1 h2
    dom0 := fun a h => r.dom0 a (h.elim .inl fun h => .inr (List.mem_cons_of_mem _ h))
    np := fun j b h z => by
      by_cases e : j = i
      · subst e
        rw [setO_self] at h
        cases h
        rcases z with z | z
        · exact nq (.inl z)
        · exact hqL z
      · rw [setO_ne e] at h
        exact r.np j b h (z.elim .inl fun z => .inr (List.mem_cons_of_mem _ z))
    kind := fun j b h => by
      by_cases e : j = i
      · subst e
        exact ⟨sv, List.getElem?_set_self hi, n.isown⟩
      · rw [setO_ne e] at h
        rw [List.getElem?_set_ne (Ne.symm e)]
        exact r.kind j b h
    new := fun j b h => by
      by_cases e : j = i
      · subst e
        rw [setO_self] at h
        cases h
        exact ⟨h0, oq, eq, tq⟩
      · rw [setO_ne e] at h
        exact r.new j b h
    base := r.base
    town := r.town
    slot := fun j sv' e => by
      by_cases hj : j = i
      · subst hj
        rw [List.getElem?_set_self hi] at e
        cases e
        refine ⟨.ref q, List.getElem?_set_self (by rw [← r.len]; exact hi), ?_⟩
        have nh : ∀ a o, G a = some o → Hd H (hid (B.ands L) (setO own j q)) a = some o := fun a o e => hd a o (hG a o e)
        cases sv with
        | own l => exact ⟨q, setO_self, rfl, OwnL.step (fun o e => e) nh n⟩
        | ownd t l => exact ⟨q, setO_self, rfl, DcR.step (fun o e => e) nh n⟩
        | d _ => exact n.elim
        | town => exact n.elim
        | scr => exact n.elim
      · rw [List.getElem?_set_ne (Ne.symm hj)] at e
        obtain ⟨u, h1, h2⟩ := r.slot j sv' e
        refine ⟨u, by rw [List.getElem?_set_ne (Ne.symm hj)]; exact h1, SVR.hd (B := B.ands (q :: L)) (fun a h => by rw [setO_ne hj]; exact h) (fun a h => h) (fun a h o e => e) hd h2⟩ }
end
/-- what some values are: own ones at the addresses of L, the others data -/
def PR (K : PySem.W.Frag) (H G : Hp) : List Bool → List V → List D → List Addr → Prop
  | [], [], [], [] => True
  | true :: fs, v :: vs, d :: ds, q :: L => v = .ref q ∧ OwnV K H G q d ∧ PR K H G fs vs ds L
  | false :: fs, v :: vs, d :: ds, L => Rp K G v d ∧ PR K H G fs vs ds L
  | _, _, _, _ => False
theorem OwnV.step {K : PySem.W.Frag} {H G H' G' : Hp} {a : Addr} {d : D} (h : ∀ o, H a = some o → H' a = some o) (hg : ∀ a o, G a = some o → G' a = some o) (q : OwnV K H G a d) : OwnV K H' G' a d := by
  rcases q with ⟨l, e, q⟩ | ⟨l, e, q⟩
  · exact .inl ⟨l, e, q.step h hg⟩
  · exact .inr ⟨l, e, q.step h hg⟩
theorem OwnV.some {K : PySem.W.Frag} {H G : Hp} {a : Addr} {d : D} (q : OwnV K H G a d) : H a ≠ none := by
  rcases q with ⟨l, e, vs, q, _⟩ | ⟨l, e, ⟨_, ks, ds, q, _⟩ | ⟨_, ks, ds, q, _⟩⟩ <;> (rw [q]; simp)
theorem PR.step {K : PySem.W.Frag} {H G H' G' : Hp} (hg : ∀ a o, G a = some o → G' a = some o) : ∀ {fs : List Bool} {vs : List V} {ds : List D} {L : List Addr}, (∀ q ∈ L, ∀ o, H q = some o → H' q = some o) → PR K H G fs vs ds L → PR K H' G' fs vs ds L
  | [], [], [], [], _, _ => trivial
  | true :: fs, v :: vs, d :: ds, q :: L, h, ⟨e, o, r⟩ => ⟨e, o.step (h q List.mem_cons_self) hg, PR.step hg (fun q' m => h q' (List.mem_cons_of_mem _ m)) r⟩
  | false :: fs, v :: vs, d :: ds, L, h, ⟨o, r⟩ => ⟨o.mono hg, PR.step hg h r⟩
theorem PR.len {K : PySem.W.Frag} {H G : Hp} : ∀ {fs : List Bool} {vs : List V} {ds : List D} {L : List Addr}, PR K H G fs vs ds L → vs.length = fs.length ∧ ds.length = fs.length
  | [], [], [], [], _ => ⟨rfl, rfl⟩
  | true :: fs, v :: vs, d :: ds, q :: L, ⟨e, o, r⟩ => by
    obtain ⟨h1, h2⟩ := PR.len r
    exact ⟨by rw [List.length_cons, List.length_cons, h1], by rw [List.length_cons, List.length_cons, h2]⟩
  | false :: fs, v :: vs, d :: ds, L, ⟨o, r⟩ => by
    obtain ⟨h1, h2⟩ := PR.len r
    exact ⟨by rw [List.length_cons, List.length_cons, h1], by rw [List.length_cons, List.length_cons, h2]⟩
/-- each into its slot -/
theorem put_all {K : PySem.W.Frag} {B : Bs} {k : Nat} {H G : Hp} {ρ0 ρ' : Rho} : ∀ {is : List (Nat × Bool)} {es : Es} {vs : List V} {ds : List D} {L : List Addr} {own : Nat → Option Addr} {ρ : Rho} {σ : L2.St}, ER K (B.ands L) own ρ k σ H → (∀ a o, G a = some o → Hd H (hid (B.ands L) own) a = some o) →
    PR K H G (is.map (·.2)) vs ds L → parOk is es ρ0 = true → parS is ds es ρ0 ρ = some ρ' → L.Nodup → (∀ q ∈ L, ¬ hid B own q ∧ B.H0 q = none) →
    ∃ own', ER K B own' ρ' k (setAll σ (is.map (·.1)) vs) H ∧ ∀ i a, own' i = some a → (∃ j, own j = some a) ∨ a ∈ L
  | [], .nil, [], [], [], own, ρ, σ, er, hG, pr, ok, h, nd, nw => by
    unfold parS at h
    cases h
    rw [ands_nil] at er
    exact ⟨own, er, fun i a h => .inl ⟨i, h⟩⟩
  | (i, true) :: is, .cons e es, v :: vs, d :: ds, q :: L, own, ρ, σ, er, hG, ⟨e1, o1, pr⟩, ok, h, nd, nw => by
    subst e1
    rw [parOk, Bool.and_eq_true, if_pos rfl] at ok
    have hk := of_decide_eq_true ok.1
    unfold parS at h
    rw [hk] at h
    have ⟨nd1, nd2⟩ := List.nodup_cons.mp nd
    have core : ∀ {sv}, setSV true .fr d = some sv → NewIn K H G q sv := fun {sv} hs => by
      rcases o1 with ⟨l, e, o1⟩ | ⟨l, e, o1⟩
      · subst e; cases hs; exact o1
      · subst e; cases hs; exact o1
    cases hs : setSV true .fr d with
    | none => rw [hs] at h; cases h
    | some sv =>
      rw [hs] at h
      dsimp only at h
      split at h
      · rename_i hi
        have n := core hs
        have er2 := er.take hi nd1 (nw q List.mem_cons_self).1 (nw q List.mem_cons_self).2 n hG
        obtain ⟨own', r1, r2⟩ := put_all er2 (fun a o e => Hd.less (fun a h => take_hid h) a o (hG a o e)) pr ok.2 h nd2 fun q' m => ⟨fun z => by
          rcases setO_hid z with z | z
          · exact (nw q' (List.mem_cons_of_mem _ m)).1 z
          · exact nd1 (z ▸ m), (nw q' (List.mem_cons_of_mem _ m)).2⟩
        refine ⟨own', r1, fun j a hj => ?_⟩
        rcases r2 j a hj with ⟨j', hj'⟩ | hj'
        · by_cases e : j' = i
          · subst e
            rw [setO_self] at hj'
            cases hj'
            exact .inr List.mem_cons_self
          · rw [setO_ne e] at hj'
            exact .inl ⟨j', hj'⟩
        · exact .inr (List.mem_cons_of_mem _ hj')
      · cases h
  | (i, false) :: is, .cons e es, v :: vs, d :: ds, L, own, ρ, σ, er, hG, ⟨o1, pr⟩, ok, h, nd, nw => by
    rw [parOk, Bool.and_eq_true, if_neg (by decide)] at ok
    have hk := of_decide_eq_true ok.1
    unfold parS at h
    unfold setSV at h
    rw [if_neg (by decide), if_neg hk] at h
    dsimp only at h
    split at h
    · rename_i hi
      have er2 := er.put hi (o1.mono hG)
      obtain ⟨own', r1, r2⟩ := put_all er2 (fun a o e => lessL_hd a o (hG a o e)) pr ok.2 h nd fun q' m => ⟨fun z => (nw q' m).1 (lessL_hid q' z), (nw q' m).2⟩
      refine ⟨own', r1, fun j a hj => ?_⟩
      rcases r2 j a hj with ⟨j', hj'⟩ | hj'
      · exact .inl ⟨j', (lessL_sub hj').1⟩
      · exact .inr hj'
    · cases h
section
variable {p : Par} {c : Cnt} {C : Ck} {g : G} {X : Cx} {W : WX} {pos : Pos}
def OKP (p : Par) (B : Bs) (L : List Addr) (own : Nat → Option Addr) (ρ : Rho) (σ : L2.St) (H : Hp) (is : List (Nat × Bool)) (Q : List V → Hp → Prop) (r : List D × Nat) : Prop :=
  ∀ vs L' H', ER p.K (B.ands (L ++ L')) own ρ r.2 σ H' → Stp B H H' → L'.Nodup → (∀ q ∈ L', H q = none) → PR p.K H' (Hd H' (hid (B.ands (L ++ L')) own)) (is.map (·.2)) vs r.1 L' → Q vs H'
def tP (p : Par) (W : WX) (g : G) (is : List (Nat × Bool)) (es : Es) : TA := fun σ H Q => ∃ B L own ρ k, parOk is es ρ = true ∧ ER p.K (B.ands L) own ρ k σ H ∧ FinG (OKP p B L own ρ σ H is Q) (XP p W B own ρ σ H) (evs g es ρ k)
theorem tP_mono {is : List (Nat × Bool)} {es : Es} {σ : L2.St} {H : Hp} {Q Q' : List V → Hp → Prop} (h : ∀ us H1, Q us H1 → Q' us H1) : tP p W g is es σ H Q → tP p W g is es σ H Q' := fun ⟨B, L, own, ρ, k, ok, er, f⟩ =>
  ⟨B, L, own, ρ, k, ok, er, f.imp (fun r hr vs L' H' a b c d e => h _ _ (hr vs L' H' a b c d e)) fun _ _ x => x⟩
theorem new_back {B : Bs} {own : Nat → Option Addr} {ρ : Rho} {k : Nat} {σ : L2.St} {H H1 : Hp} {q : Addr} (s : Stp B H H1) (er1 : ER p.K B own ρ k σ H1) (h : H1 q = none) : H q = none := by
  cases e : H q with
  | none => rfl
  | some o =>
    by_cases t : B.isT q
    · exact absurd h (er1.dom (isT_hid t))
    · rw [s q o e t] at h; cases h
theorem pa_pars (G : Good p c C g X W) : ∀ (is : List (Nat × Bool)) (es : Es) {xs : List Expr}, Each p g X W es xs → cks C X.env.scope es xs = true → PA X xs (tP p W g is es)
  | [], .nil, [], _, _ => pa_nil.imp fun σ H Q ⟨B, L, own, ρ, k, ok, er, f⟩ => by
    unfold evs at f
    exact f [] [] H (by rw [List.append_nil]; exact er) Stp.refl List.nodup_nil (fun q h => nomatch h) trivial
  | (i, o) :: is, .cons e es, x :: xs, ⟨h, hs⟩, hc => by
    rw [cks, Bool.and_eq_true] at hc
    refine (pa_cons h (pa_pars G is es hs hc.2) (plain_star (ck_plain hc.1))).imp fun σ H Q ⟨B, L, own, ρ, k, ok, er, f⟩ => ?_
    unfold evs at f
    have upg : ∀ {H1 : Hp} {L1 : List Addr} {a : Addr} {u : HO}, Hd H1 (hid (B.ands L1) own) a = some u → u = u := fun _ => rfl
    refine ⟨B.ands L, own, ρ, k, er, (FinG.bind f).imp (fun a ⟨_, fa⟩ v H1 er1 s1 q1 => ?_) fun x k hx cls dx H' er' s' q => hx cls dx H' er'.unands s' q⟩
    have nT : ∀ {H2 : Hp} {a : Addr} {P : Addr → Prop} {u : HO}, (∀ b, hid (B.ands L) own b → P b) → Hd H2 P a = some u → ¬ B.isT a := fun hP e t => Hd.np e (hP _ (isT_hid (B := B.ands L) t))
    have grow : ∀ {H2 : Hp} {L1 L2 : List Addr} {P : Addr → Prop}, Stp B H1 H2 → (∀ b, hid (B.ands L) own b → P b) → (∀ b, b ∈ L1 → P b) → (∀ q ∈ L2, H1 q = none) → ∀ a u, Hd H1 P a = some u → Hd H2 (hid (B.ands (L ++ (L1 ++ L2))) own) a = some u := fun {H2 L1 L2 P} s2 hP h1 h2 a u e => by
      have e1 := Hd.le a u e
      refine Hd.at (fun z => ?_) (s2 a u e1 (nT hP e))
      rcases ands_hid.mp z with z | z
      · exact Hd.np e (hP a (ands_hid.mpr (.inl z)))
      · rcases List.mem_append.mp z with z | z
        · exact Hd.np e (hP a (ands_hid.mpr (.inr z)))
        · rcases List.mem_append.mp z with z | z
          · exact Hd.np e (h1 a z)
          · rw [h2 a z] at e1; cases e1
    rw [parOk, Bool.and_eq_true] at ok
    have xp : ∀ (x : Exn) (k : Nat), XP p W B own ρ σ H x k → XP p W B own ρ σ H1 x k := fun x k hx => XP.later (B := B) s1 hx
    cases o with
    | true =>
      rw [if_pos rfl] at ok
      rw [of_decide_eq_true ok.1] at q1
      obtain ⟨q, rfl, hq, nq, ow⟩ := q1
      have er1' := er.ands1 (q := q) s1 er1 hq ow.some
      refine ⟨B, L ++ [q], own, ρ, a.2, ok.2, er1', (FinG.bind fa).imp (fun b ⟨_, hb⟩ vs L'' H2 er2 s2 nd nw pr => ?_) xp⟩
      have el : (L ++ [q]) ++ L'' = L ++ q :: L'' := by rw [List.append_assoc]; rfl
      rw [el] at er2 pr
      have hq2 : q ∉ L'' := fun z => ow.some (nw q z)
      refine hb (.ref q :: vs) (q :: L'') H2 er2 (s1.trans s2) (List.nodup_cons.mpr ⟨hq2, nd⟩) (fun q' m => ?_) ⟨rfl, ow.step (fun o e => s2 q o e fun t => nq (isT_hid (B := B.ands L) t)) (grow (L1 := [q]) s2 (fun b h => .inl h) (fun b h => .inr (List.mem_singleton.mp h)) nw), pr⟩
      rcases List.mem_cons.mp m with m | m
      · rw [m]; exact hq
      · exact new_back (p := p) (B := B) s1 er1.unands (nw q' m)
    | false =>
      rw [if_neg (by decide)] at ok
      have q2 := q1.plain (of_decide_eq_true ok.1)
      refine ⟨B, L, own, ρ, a.2, ok.2, er1, (FinG.bind fa).imp (fun b ⟨_, hb⟩ vs L'' H2 er2 s2 nd nw pr => ?_) xp⟩
      exact hb (v :: vs) L'' H2 er2 (s1.trans s2) nd (fun q' m => new_back (p := p) (B := B) s1 er1.unands (nw q' m)) ⟨q2.mono (grow (L1 := []) s2 (fun b h => h) (fun b h => nomatch h) nw), pr⟩
  | [], .cons e es, x :: xs, ⟨h, hs⟩, hc => by
    rw [cks, Bool.and_eq_true] at hc
    exact (pa_cons h (pa_pars G [] es hs hc.2) (plain_star (ck_plain hc.1))).imp fun σ H Q ⟨B, L, own, ρ, k, ok, er, f⟩ => by simp [parOk] at ok
  | _ :: _, .nil, [], _, _ => pa_nil.imp fun σ H Q ⟨B, L, own, ρ, k, ok, er, f⟩ => by simp [parOk] at ok
  | _, .nil, _ :: _, _, hc => by simp [cks] at hc
  | _, .cons _ _, [], _, hc => by simp [cks] at hc
theorem s_par (G : GoodS p c C g X W) {is : List (Nat × Bool)} {es : Es} {ts vs : List Expr} {k1 k2 : Nat} {q1 q2 : Pos} (hn : nmsB C.N X.env.scope (is.map (·.1)) ts = true) (hd : decide ((is.map (·.1)).Nodup) = true)
    (hs : (swNone X.env.scope (.Tuple ts k1 q1) (.Tuple vs k2 q2) || swSome X.env.scope ts vs) = true) (hz : lim is.length = true) (he : Each p g X W es vs) (hc : cks C X.env.scope es vs = true) :
    PS X (.Assign [.Tuple ts k1 q1] (.Tuple vs k2 q2) pos) (tS p W g (.par is es)) :=
  (ps_pars (ta := tP p W g is es) G.good.calm (by rw [G.good.N]; exact G.good.nd) (GoodS.fn G) G.kind (by rw [G.good.N]; exact hn) (of_decide_eq_true hd) hs (fun σ H Q Q' h t => tP_mono h t) (by rw [List.length_map]; exact hz) (pa_pars G.good is es he hc)).imp fun D σ H ⟨B, own, ρ, k, er, f⟩ => by
    unfold exe at f
    cases ok : parOk is es ρ with
    | false => rw [ok] at f; exact f.elim
    | true =>
      rw [ok] at f
      have er0 : ER p.K (B.ands []) own ρ k σ H := by rw [ands_nil]; exact er
      refine ⟨B, [], own, ρ, k, ok, er0, ?_⟩
      cases hv : evs g es ρ k with
      | no => rw [hv] at f; exact f.elim
      | ex x kk =>
        rw [hv] at f
        exact fun cls dx H' er' s' q => f cls dx own ρ σ H' er' (OS.stp s' er') q
      | ok r =>
        rw [hv] at f
        intro us L' H1 er1 s1 nd nw pr
        rw [List.nil_append] at er1 pr
        have hl := pr.len.1
        refine ⟨by rw [hl, List.length_map, List.length_map], fun H2 sm => ?_⟩
        have f : FinO p W B own H D (match parS is r.1 es ρ ρ with
          | some ρ => .nx ρ r.2
          | none => .no) := f
        cases hp : parS is r.1 es ρ ρ with
        | none => rw [hp] at f; exact f.elim
        | some ρ' =>
          rw [hp] at f
          have er2 := er1.same sm
          have nh : ∀ q ∈ L', ¬ hid B own q := fun q m z => er.dom z (nw q m)
          obtain ⟨own', r1, r2⟩ := put_all er2 (fun a o e => e) (pr.step (same_hd sm) fun q m o e => sm q o e) ok hp nd fun q m => ⟨nh q m, by
            cases e : B.H0 q with
            | none => rfl
            | some o =>
              have := er.base q o e fun t => nh q m (isT_hid t)
              rw [nw q m] at this
              cases this⟩
          have s2 : Stp B H H2 := s1.trans (Stp.same sm)
          refine f own' _ H2 r1 ⟨s2.kp, fun j a h => ?_, (OS.stp s2 er2.unands).dom⟩
          rcases r2 j a h with z | z
          · exact .inl z
          · exact .inr (nw a z)
end
end Y

namespace Y
open PySem PySem.W PySem.Spec PyProof.Rows L2
variable [TownS]
/-! ### the first ones, and a list of the others -/
abbrev GEq : Array GenState → Array GenState → Prop := fun a b => b = a
section
variable {prog : Program} {w : World} {A : Around} {E : Value → Shared → Prop} {s : Shared} {it : Addr} {fp wr : List Addr} {n : Nat} {P : Nat → Value → Prop} {St : Nat → Shared → Prop}
theorem walks_from (W : WalksS prog w A it fp wr GEq n P St) {m : Nat} (hm : m ≤ n) : WalksS prog w A it fp wr GEq (n - m) (fun i => P (m + i)) (fun i => St (m + i)) where
  sub := W.sub
  grefl := W.grefl
  gtrans := W.gtrans
  frame := fun i s h' tk st => W.frame (m + i) s h' tk st
  item := fun i s Q E hi st hQ => W.item (m + i) s Q E (by omega) st hQ
  done := fun s Q E st hQ => W.done s Q E (by rw [show m + (n - m) = n by omega] at st; exact st) hQ
  self := fun i s Q E st hQ => W.self (m + i) s Q E st hQ
theorem draw_walk (W : WalksS prog w A it fp wr GEq n P St) : ∀ (m i : Nat) (s : Shared) (Q : List Value → Shared → Prop), i + m ≤ n → St i s →
    (∀ vs s', vs.length = m → (∀ j v, vs[j]? = some v → P (i + j) v) → St (i + m) s' → Moved wr GEq s s' → Q vs s') → wpAny (model prog w) A (draw (.ref it) m) Q E s
  | 0, i, s, Q, _, st, hQ => by
    show wpAny _ _ (pure []) Q E s
    exact wpAny_pure (hQ [] s rfl (fun j v h => by simp at h) st (Moved.refl W.grefl))
  | m + 1, i, s, Q, hi, st, hQ => by
    show wpAny _ _ (pyNext (.ref it) >>= _) Q E s
    refine wpAny_bind (W.item i s _ _ (by omega) st fun v s1 hv st1 mv1 => ?_)
    refine wpAny_bind (wpAny_holding (draw_walk W m (i + 1) s1 _ (by omega) st1 fun vs s2 hl hp st2 mv2 => wpAny_pure ?_))
    refine hQ (v :: vs) s2 (by rw [List.length_cons, hl]) (fun j u hj => ?_) (by rw [show i + (m + 1) = i + 1 + m by omega]; exact st2) (mv1.trans W.gtrans mv2)
    cases j with
    | zero =>
      have e : v = u := by simpa using hj
      rw [← e]; exact hv
    | succ j =>
      have := hp j u (by simpa using hj)
      rw [show i + (j + 1) = i + 1 + j by omega]
      exact this
theorem unpack_star {v : Value} {items : List Value} {m : Nat} {Q : List Value → Shared → Prop} {T : String} (hTm : T = "str_ascii_iterator" ∨ T = "str_iterator" ∨ T = "list_iterator" ∨ T = "tuple_iterator")
    (hn : ∀ {Q' : Bool → Shared → Prop}, Q' false s → wpAny (model prog w) A (notIterableAtAll v) Q' E s) (hit : ∀ {Q' : Value → Shared → Prop}, (∀ s1 : Shared, s1.gens = s.gens → s1.drawn = s.drawn → s1.os = s.os → s.toks ≤ s1.toks → (∀ b o, s.heap.get? b = some o → s1.heap.get? b = some o) → St 0 s1 → it < s1.heap.objs.size → s.heap.get? it = none → Q' (.ref it) s1) → wpAny (model prog w) A (pyIter v) Q' E s)
    (W : WalksS prog w A.in1 it fp [it] GEq items.length (fun i u => items[i]? = some u) St) (hT : ∀ i s, St i s → s.TypeIs (.ref it) T) (hfp : ∀ i s, St i s → ∀ b ∈ fp, b < s.heap.objs.size) (hI : it ∈ fp) (hm : m ≤ items.length) (hz : items.length ≤ sizeLine)
    (hQ : ∀ (s1 : Shared) L, s1.gens = s.gens → s1.drawn = s.drawn → s1.os = s.os → s.toks ≤ s1.toks → (∀ b o, s.heap.get? b = some o → s1.heap.get? b = some o) → L = s1.heap.objs.size →
      Q (items.take m ++ [.ref L]) { s1 with heap := s1.heap.push { cls := .type "list", data := .seq (items.drop m).toArray } }) :
    wpAny (model prog w) A (unpackItems v (m + 1) (some m)) Q E s := by
  unfold unpackItems
  refine wpAny_bind (hn ?_)
  simp only [Bool.false_eq_true, if_false]
  refine wpAny_bind (wpAny_holding (hit fun s1 g1 d1 o1 t1 h1 st1 lt1 fr => ?_))
  refine wpAny_bind (wpAny_holding (draw_walk W.of_in1 m 0 s1 _ (by omega) st1 fun vs s2 hl hp st2 mv2 => ?_))
  have evs : vs = items.take m := by
    apply List.ext_getElem?
    intro j
    rw [List.getElem?_take]
    split
    · rename_i hj
      have : j < vs.length := by omega
      rw [List.getElem?_eq_getElem this]
      have := hp j _ (List.getElem?_eq_getElem this)
      rw [Nat.zero_add] at this
      exact this.symm
    · rw [List.getElem?_eq_none (by omega)]
  rw [if_neg (by rw [hl]; omega)]
  rw [Nat.zero_add] at st2
  have W2 := walks_from W hm
  refine wpAny_bind (wpAny_holding (wpAny_collect_iter (n := items.length - m) hTm W2 (fun i s h => hT _ s h) st2 (hfp _ _ st2) hI (fun s3 acc mv3 ha => ?_) (by omega)))
  have ea : acc.toList = items.drop m := by
    apply List.ext_getElem?
    intro j
    rw [List.getElem?_drop]
    by_cases hj : j < acc.toList.length
    · have hj' : j < acc.size := by simpa using hj
      have := ha.2 j acc[j] (by simp [hj'])
      rw [this]
      simp [hj']
    · rw [List.getElem?_eq_none (by omega), List.getElem?_eq_none]
      have := ha.1
      have : acc.toList.length = acc.size := by simp
      omega
  have e0 : m + 1 - 1 - m = 0 := by omega
  rw [e0]
  rw [if_neg (by omega)]
  have e1 : acc.toList.length - 0 = acc.toList.length := Nat.sub_zero _
  rw [e1]
  have e2 : acc.toList.take acc.toList.length = items.drop m := by rw [List.take_length, ea]
  have e3 : acc.toList.drop acc.toList.length = [] := List.drop_length
  rw [e2, e3]
  refine wpAny_bind (wpAny_newObj_type ?_ ?_)
  · rw [evs]
    refine wpAny_pure ?_
    rw [List.append_nil]
    have keep : ∀ b o, s.heap.get? b = some o → s3.heap.get? b = some o := fun b o e => by
      have hb : b ∉ [it] := fun h => by
        rw [List.mem_singleton.mp h, fr] at e
        cases e
      exact mv3.heap b o hb (mv2.heap b o hb (h1 b o e))
    exact hQ s3 _ (mv3.gens.trans (mv2.gens.trans g1)) (mv3.drawn.trans (mv2.drawn.trans d1)) (mv3.os.trans (mv2.os.trans o1)) (Nat.le_trans t1 (Nat.le_trans mv2.toks mv3.toks)) keep rfl
  · show (items.drop m).toArray.size ≤ sizeLine
    rw [List.size_toArray, List.length_drop]
    omega
theorem unpack_star_list {l : Addr} {items : List Value} {m : Nat} {Q : List Value → Shared → Prop} (hh : A.handled = none) (hl : s.heap.IsList l items.toArray) (hm : m ≤ items.length) (hz : items.length ≤ sizeLine)
    (hQ : ∀ (s1 : Shared) L, s1.gens = s.gens → s1.drawn = s.drawn → s1.os = s.os → s.toks ≤ s1.toks → (∀ b o, s.heap.get? b = some o → s1.heap.get? b = some o) → L = s1.heap.objs.size →
      Q (items.take m ++ [.ref L]) { s1 with heap := s1.heap.push { cls := .type "list", data := .seq (items.drop m).toArray } }) :
    wpAny (model prog w) A (unpackItems (.ref l) (m + 1) (some m)) Q E s := by
  have hlt : l ≠ s.heap.objs.size := by obtain ⟨o, ho, _⟩ := hl; exact Nat.ne_of_lt (Heap.lt_size ho)
  refine unpack_star (T := "list_iterator") (it := s.heap.objs.size) (fp := [s.heap.objs.size, l]) (St := fun i s' => s'.heap.IsListIter s.heap.objs.size l i ∧ s'.heap.IsList l items.toArray) (.inr (.inr (.inl rfl))) (fun {Q'} h => ?_) (fun {Q'} h => ?_) ?_ (fun i s' st => ?_) (fun i s' st b hb => ?_) (by simp) hm hz hQ
  · unfold notIterableAtAll
    exact wpAny_bind (wpAny_specialOf hl.typeIs slot_list_iter.lookup (wpAny_pure h))
  · refine wpAny_pyIter_list hl (h _ rfl rfl rfl (Nat.le_refl _) (fun b o e => Heap.get?_push_of_some _ e) ⟨⟨_, Heap.get?_push_size _ rfl, rfl, rfl⟩, hl.at fun o e => Heap.get?_push_of_some _ e⟩ ?_ ?_)
    · rw [Heap.size_push]; exact Nat.lt_succ_self _
    · exact Heap.get?_none_of_le (Nat.le_refl _)
  · have W := (Walks.list (prog := prog) (w := w) (A := A.in1) hh s.heap.objs.size l hlt items.toArray).toS
    simpa using W
  · obtain ⟨⟨o, ho, hc, _⟩, _⟩ := st
    exact ⟨o, ho, hc⟩
  · obtain ⟨⟨o, ho, _⟩, ⟨o', ho', _⟩⟩ := st
    rcases List.mem_cons.mp hb with rfl | hb
    · exact Heap.lt_size ho
    · rw [List.mem_singleton.mp hb]; exact Heap.lt_size ho'
theorem unpack_star_tup {l : Addr} {items : List Value} {m : Nat} {Q : List Value → Shared → Prop} (hh : A.handled = none) (hl : s.heap.IsTuple l items.toArray) (hm : m ≤ items.length) (hz : items.length ≤ sizeLine)
    (hQ : ∀ (s1 : Shared) L, s1.gens = s.gens → s1.drawn = s.drawn → s1.os = s.os → s.toks ≤ s1.toks → (∀ b o, s.heap.get? b = some o → s1.heap.get? b = some o) → L = s1.heap.objs.size →
      Q (items.take m ++ [.ref L]) { s1 with heap := s1.heap.push { cls := .type "list", data := .seq (items.drop m).toArray } }) :
    wpAny (model prog w) A (unpackItems (.ref l) (m + 1) (some m)) Q E s := by
  have hlt : l ≠ s.heap.objs.size := by obtain ⟨o, ho, _⟩ := hl; exact Nat.ne_of_lt (Heap.lt_size ho)
  refine unpack_star (T := "tuple_iterator") (it := s.heap.objs.size) (fp := [s.heap.objs.size, l]) (St := fun i s' => s'.heap.IsTupleIter s.heap.objs.size l i ∧ s'.heap.IsTuple l items.toArray) (.inr (.inr (.inr rfl))) (fun {Q'} h => ?_) (fun {Q'} h => ?_) ?_ (fun i s' st => ?_) (fun i s' st b hb => ?_) (by simp) hm hz hQ
  · unfold notIterableAtAll
    exact wpAny_bind (wpAny_specialOf hl.typeIs slot_tuple_iter.lookup (wpAny_pure h))
  · refine wpAny_pyIter_tuple hl (h _ rfl rfl rfl (Nat.le_refl _) (fun b o e => Heap.get?_push_of_some _ e) ⟨⟨_, Heap.get?_push_size _ rfl, rfl, rfl⟩, hl.at fun o e => Heap.get?_push_of_some _ e⟩ ?_ ?_)
    · rw [Heap.size_push]; exact Nat.lt_succ_self _
    · exact Heap.get?_none_of_le (Nat.le_refl _)
  · have W := (Walks.tuple (prog := prog) (w := w) (A := A.in1) hh s.heap.objs.size l hlt items.toArray).toS
    simpa using W
  · obtain ⟨⟨o, ho, hc, _⟩, _⟩ := st
    exact ⟨o, ho, hc⟩
  · obtain ⟨⟨o, ho, _⟩, ⟨o', ho', _⟩⟩ := st
    rcases List.mem_cons.mp hb with rfl | hb
    · exact Heap.lt_size ho
    · rw [List.mem_singleton.mp hb]; exact Heap.lt_size ho'
end
end Y

namespace Y
open PySem PySem.W PySem.Spec PyProof.Rows L2
variable [TownS]
section
variable {X : Cx} {pos : Pos}
def gStar (K : PySem.W.Frag) (n : Nat) (t : TGs) : TG := fun v σ H Q => ∃ a xs, v = .ref a ∧ (SqT K H a xs ∨ SqL K H a xs) ∧ n ≤ xs.length ∧ ∀ L, H L = none → t (xs.take n ++ [.ref L]) σ (upd H L (.lst (xs.drop n))) Q
theorem pg_star {es : List Expr} {k : Nat} {t : TGs} {n : Nat} (hc : X.calm = true) (h : PGs X es t) (hn : (assignEach es X.env).length = n + 1) (hst : (assignEach es X.env).findIdx? (·.1) = some n) : PG X (.Tuple es k pos) (gStar X.K n t) := by
  refine ⟨fun pins s σ H v u Q I r hw => ?_⟩
  obtain ⟨a, xs, e1, hq, hl, hw⟩ := hw
  subst e1
  cases r
  have key : ∀ {its : List Value} {s1 : Shared} {L : Addr}, Vals xs its → xs.length ≤ sizeLine → s1.gens = s.gens → s1.drawn = s.drawn → s1.os = s.os → s.toks ≤ s1.toks → (∀ b o, s.heap.get? b = some o → s1.heap.get? b = some o) → L = s1.heap.objs.size →
      wpAny (model X.prog X.w) X.A (assignInOrder ((assignEach es X.env).map (·.2)) (its.take n ++ [.ref L])) (fun _ s' => ∃ σ' H', Inv X pins σ' H' s' ∧ Q σ' H') X.xe { s1 with heap := s1.heap.push { cls := .type "list", data := .seq (its.drop n).toArray } } := fun {its s1 L} rv hz g1 d1 o1 t1 h1 hL => by
    have es1 : s1 = { s with heap := s1.heap, toks := s1.toks } := by
      cases s1
      cases s
      simp only at g1 d1 o1
      subst g1 d1 o1
      rfl
    have I1 : Inv X pins σ H s1 := by
      rw [es1]
      exact I.kept h1
    have I2 := I1.lnew (t' := s1.toks) (rv.drop n) (by rw [List.length_drop]; omega)
    have hf : H L = none := by rw [hL]; exact I1.fresh
    rw [hL] at hf ⊢
    exact h.run pins _ σ _ _ _ Q I2 (Vals.append (rv.take n) (.cons (show RelV (.ref s1.heap.objs.size) (.ref s1.heap.objs.size) from rfl) .nil)) (hw _ hf)
  rw [assign_Tuple]
  refine wpAny_bind (wpAny_standAt ?_)
  unfold unpack
  rw [hn, hst]
  rcases hq with hq | hq
  · obtain ⟨its, rv, ht, hz⟩ := I.tuple hq
    refine wpAny_bind (wpAny_holding (unpack_star_tup (I.ok.hd hc) ht (by rw [← rv.length]; exact hl) (by rw [← rv.length]; exact hz) fun s1 L g1 d1 o1 t1 h1 hL => ?_))
    exact key rv hz g1 d1 o1 t1 h1 hL
  · obtain ⟨its, rv, ht, hz⟩ := I.list hq
    refine wpAny_bind (wpAny_holding (unpack_star_list (I.ok.hd hc) ht.isList (by rw [← rv.length]; exact hl) (by rw [← rv.length]; exact hz) fun s1 L g1 d1 o1 t1 h1 hL => ?_))
    exact key rv hz g1 d1 o1 t1 h1 hL

def starOf : Expr → Option Expr
  | .Starred t _ => some t
  | _ => none
/-- the targets ahead of the star, the star's name -/
def splitStar : List Expr → Option (List Expr × Expr)
  | [] => none
  | [e] => (starOf e).map fun t => ([], t)
  | e :: es => (splitStar es).map fun r => (e :: r.1, r.2)
theorem splitStar_inv : ∀ {es : List Expr} {l : List Expr} {t : Expr}, splitStar es = some (l, t) → ∃ q, es = l ++ [.Starred t q]
  | [], _, _, h => by simp [splitStar] at h
  | [e], l, t, h => by
    cases e <;> simp [splitStar, starOf] at h
    obtain ⟨rfl, rfl⟩ := h
    exact ⟨_, rfl⟩
  | e :: e2 :: es, l, t, h => by
    simp only [splitStar, Option.map_eq_some_iff] at h
    obtain ⟨r, h1, h2⟩ := h
    obtain ⟨l', t'⟩ := r
    obtain ⟨q, e3⟩ := splitStar_inv h1
    cases h2
    exact ⟨q, by rw [e3]; rfl⟩
end
section
variable {p : Par} {c : Cnt} {C : Ck} {g : G} {X : Cx} {W : WX} {pos : Pos}
theorem tGs_cons {t : Tg} {ts : Tgs} {vs : List V} {σ : L2.St} {H : Hp} {Q : L2.St → Hp → Prop} (h : tGs p (.cons t ts) vs σ H Q) : ∃ v r, vs = v :: r ∧ tG p t v σ H fun σ' H' => tGs p ts r σ' H' Q := by
  obtain ⟨B, own, ρ, k, y, ρ', er, q, hb, ok⟩ := h
  cases y with
  | nil => simp [bindTs] at hb
  | cons x xs =>
    rw [bindTs] at hb
    cases hx : bindT t x ρ with
    | none => rw [hx] at hb; cases hb
    | some ρ1 =>
      rw [hx] at hb
      cases q with
      | cons q1 qs =>
        refine ⟨_, _, rfl, B, own, ρ, k, x, ρ1, er, q1, hx, fun σ1 er1 o1 => ?_⟩
        exact ⟨B, _, ρ1, k, xs, ρ', er1, qs.mono lessL_hd, hb, fun σ2 er2 o2 => ok σ2 (by rw [lessL_app] at er2; exact er2) (o1.trans o2)⟩
theorem tGs_nil {vs : List V} {σ : L2.St} {H : Hp} {Q : L2.St → Hp → Prop} (h : tGs p .nil vs σ H Q) : vs = [] ∧ Q σ H := by
  obtain ⟨B, own, ρ, k, y, ρ', er, q, hb, ok⟩ := h
  cases y with
  | nil =>
    cases q
    cases hb
    exact ⟨rfl, ok σ (by rw [show tgsSl .nil = [] from rfl, lessL_nil]; exact er) OnlyS.refl⟩
  | cons _ _ => simp [bindTs] at hb
def tGst (p : Par) (ts : Tgs) (j : Nat) : TGs := fun vs σ H Q => ∃ ws w, vs = ws ++ [w] ∧ tGs p ts ws σ H fun σ' H' => Q (σ'.set j (some w)) H'
theorem tG_mono {t : Tg} {v : V} {σ : L2.St} {H : Hp} {Q Q' : L2.St → Hp → Prop} (h : ∀ σ H, Q σ H → Q' σ H) : tG p t v σ H Q → tG p t v σ H Q' := fun ⟨B, own, ρ, k, x, ρ', er, q, hb, ok⟩ => ⟨B, own, ρ, k, x, ρ', er, q, hb, fun σ' er' o => h _ _ (ok σ' er' o)⟩
theorem pgs_star (G : GoodS p c C g X W) {j : Nat} {y : Str} {q1 q2 : Pos} (hN : C.N[j]? = some y) (hl : Loc X.env.scope y) : ∀ (ts : Tgs) {es : List Expr}, ckTs C.N (fun _ => true) X.env.scope ts es = true → PGs X (es ++ [.Starred (.Name y q1) q2]) (tGst p ts j)
  | .nil, [], h => by
    have base : PGs X [.Name y q1] (gCons (gName j) gNil) := pgs_cons (pg_name (i := j) (by rw [G.good.N]; exact G.good.nd) (by rw [G.good.N]; exact hN) hl (.inl (congrFun (GoodS.fn G) y))) pgs_nil
    have base2 : PGs X [.Starred (.Name y q1) q2] (gCons (gName j) gNil) := ⟨fun pins s σ H vs us Q I r q => base.run pins s σ H vs us Q I r q⟩
    refine base2.imp fun vs σ H Q ⟨ws, w, e, h⟩ => ?_
    obtain ⟨e1, h2⟩ := tGs_nil h
    subst e1
    subst e
    exact ⟨w, [], rfl, rfl, h2⟩
  | .cons t ts, e :: es, h => by
    rw [ckTs, Bool.and_eq_true] at h
    have hp := ckT_plain h.1
    have hs : (assignEach (e :: (es ++ [.Starred (.Name y q1) q2])) X.env).map (·.2) = assign e X.env :: (assignEach (es ++ [.Starred (.Name y q1) q2]) X.env).map (·.2) := by
      cases e <;> first | rfl | (simp [plainT] at hp)
    refine (pgs_cons (c_tg t G.good h.1 (GoodS.fn G)) (pgs_star G hN hl ts h.2) hs).imp fun vs σ H Q ⟨ws, w, e, h⟩ => ?_
    obtain ⟨v, r, e2, h2⟩ := tGs_cons h
    exact ⟨v, r ++ [w], by rw [e, e2]; rfl, tG_mono (fun σ' H' h => ⟨r, w, rfl, h⟩) h2⟩
  | .nil, _ :: _, h => by simp [ckTs] at h
  | .cons _ _, [], h => by simp [ckTs] at h
theorem star_len {N : List Str} {fn : Str → Bool} {sc : Scope} {env : Env} {y : Expr} {q : Pos} : ∀ {ts : Tgs} {es : List Expr}, ckTs N fn sc ts es = true → (assignEach (es ++ [.Starred y q]) env).length = ts.len + 1 ∧ (assignEach (es ++ [.Starred y q]) env).findIdx? (·.1) = some ts.len
  | .nil, [], _ => ⟨rfl, rfl⟩
  | .cons t ts, e :: es, h => by
    rw [ckTs, Bool.and_eq_true] at h
    have hp := ckT_plain h.1
    obtain ⟨h1, h2⟩ := star_len (env := env) (y := y) (q := q) h.2
    have e0 : assignEach (e :: (es ++ [.Starred y q])) env = (false, assign e env) :: assignEach (es ++ [.Starred y q]) env := by
      cases e <;> first | rfl | (simp [plainT] at hp)
    rw [List.cons_append, e0]
    refine ⟨by rw [List.length_cons, h1, Tgs.len], by rw [List.findIdx?_cons, h2]; rfl⟩
  | .nil, _ :: _, h => by simp [ckTs] at h
  | .cons _ _, [], h => by simp [ckTs] at h
theorem s_star (G : GoodS p c C g X W) {ts : Tgs} {j : Nat} {o : Bool} {e : E} {es : List Expr} {kk : Nat} {y : Str} {q1 q2 q3 : Pos} {v : Expr} (hN : C.N[j]? = some y) (hl : Loc X.env.scope y) (hts : ckTs C.N (fun _ => true) X.env.scope ts es = true) (h : PE X v (tE p W g e)) (hn : noComp v = true)
    (hs : swNone X.env.scope (.Tuple (es ++ [.Starred (.Name y q1) q2]) kk q3) v = true) : PS X (.Assign [.Tuple (es ++ [.Starred (.Name y q1) q2]) kk q3] v pos) (tS p W g (.star ts j o e)) := by
  obtain ⟨l1, l2⟩ := star_len (env := X.env) (y := .Name y q1) (q := q2) hts
  refine (ps_asg h (pg_star G.good.calm (pgs_star G hN hl ts hts) l1 l2) (noComp_sole hn) (swNone_ok hs) rfl).imp fun D σ H ⟨B, own, ρ, k, er, f⟩ => ?_
  unfold exe at f
  refine tE.go er f fun d k1 v H1 er1 s1 q1 f => ?_
  unfold starS at f
  cases hd : seqOf d with
  | none => rw [hd] at f; exact f.elim
  | some l =>
    rw [hd] at f
    dsimp only at f
    split at f
    · rename_i hn
      cases hb : bindTs ts (l.take ts.len) ρ with
      | none => rw [hb] at f; exact f.elim
      | some ρ1 =>
        rw [hb] at f
        dsimp only at f
        have src : ∃ a vs, v = .ref a ∧ (SqT p.K H1 a vs ∨ SqL p.K H1 a vs) ∧ vs.length ≤ sizeLine ∧ Rps p.K (Hd H1 (hid B own)) vs l := by
          cases d with
          | list l' =>
            cases hd
            obtain ⟨a, vs, e, a1, a2, a3⟩ := q1.list
            exact ⟨a, vs, e, .inr a1, a2, a3⟩
          | tuple l' =>
            cases hd
            obtain ⟨a, vs, e, a1, a2, a3, _⟩ := q1.tup
            exact ⟨a, vs, e, .inl a1, a2, a3⟩
          | _ => cases hd
        obtain ⟨a, vs, rfl, a1, a2, a3⟩ := src
        rw [G.good.K]
        refine ⟨a, vs, rfl, a1, by rw [a3.length]; exact hn, fun L hL => ⟨vs.take ts.len, .ref L, rfl, ?_⟩⟩
        have sm := same_new (o := HO.lst (vs.drop ts.len)) hL
        have nL : ¬ hid B own L := fun z => er1.dom z hL
        have er0 : ER p.K (B.ands []) own ρ k1 σ H1 := by rw [ands_nil]; exact er1
        have er2 : ER p.K (B.ands [L]) own ρ k1 σ (upd H1 L (.lst (vs.drop ts.len))) := er0.ands1 (q := L) (Stp.same sm) (er0.same sm) hL (by rw [upd_same]; simp)
        have hd2 : ∀ b u, Hd H1 (hid B own) b = some u → Hd (upd H1 L (.lst (vs.drop ts.len))) (hid (B.ands [L]) own) b = some u := fun b u e => by
          have e1 := Hd.le b u e
          refine Hd.at (fun z => ?_) (sm b u e1)
          rcases ands_hid.mp z with z | z
          · exact Hd.np e z
          · rw [List.mem_singleton.mp z, hL] at e1
            cases e1
        refine ⟨B.ands [L], own, ρ, k1, l.take ts.len, ρ1, er2, (a3.take _).mono hd2, hb, fun σ2 er3 o3 => ?_⟩
        have hlen : (vs.drop ts.len).length ≤ sizeLine := by rw [List.length_drop]; omega
        have oL : OwnL p.K (upd H1 L (.lst (vs.drop ts.len))) (Hd (upd H1 L (.lst (vs.drop ts.len))) (hid (B.ands [L]) (lessL own (tgsSl ts)))) L (l.drop ts.len) := ⟨_, upd_same, hlen, ((a3.drop _).mono hd2).mono lessL_hd⟩
        have os : OS B own H1 (lessL own (tgsSl ts)) (upd H1 L (.lst (vs.drop ts.len))) := (OS.stp (Stp.same sm) (er1.same sm)).trans OS.less
        cases o with
        | true =>
          have f : FinO p W B own H1 D (putS ρ1 j (some (.own (l.drop ts.len))) k1) := f
          unfold putS at f
          dsimp only at f
          split at f
          · rename_i hj
            have er4 := er3.take (i := j) (q := L) (L := []) hj (fun z => nomatch z) (fun z => nL (lessL_hid L z)) (by
              cases e : B.H0 L with
              | none => rfl
              | some u =>
                have := er1.base L u e fun t => nL (isT_hid t)
                rw [hL] at this
                cases this) (show NewIn p.K _ _ L (.own (l.drop ts.len)) from oL) (fun b u e => e)
            rw [ands_nil] at er4
            refine f _ _ _ er4 ⟨os.kp, fun i b h => ?_, os.dom⟩
            by_cases e : i = j
            · subst e
              rw [setO_self] at h
              cases h
              exact .inr hL
            · rw [setO_ne e] at h
              exact .inl ⟨i, (lessL_sub h).1⟩
          · exact f.elim
        | false =>
          have f : FinO p W B own H1 D (putS ρ1 j (some (.d (.list (l.drop ts.len)))) k1) := f
          unfold putS at f
          dsimp only at f
          split at f
          · rename_i hj
            have q5 : Rp p.K (Hd (upd H1 L (.lst (vs.drop ts.len))) (hid B (lessL own (tgsSl ts)))) (.ref L) (.list (l.drop ts.len)) := Rp.mono lessL_hd (new_lst er1 hL hlen (a3.drop _))
            exact f _ _ _ (er3.unands.put hj q5) (os.trans OS.less)
          · exact f.elim
    · exact f.elim
end
end Y

namespace Y
open PySem PySem.W PySem.Spec PyProof.Rows L2
variable [TownS]
/-! ### the row of draws goes on -/
section
variable {K : PySem.W.Frag} {B : Bs} {own : Nat → Option Addr} {ρ : Rho} {k : Nat} {σ : L2.St} {H : Hp} {t : Addr}
/-- the row of draws is written -/
theorem ER.tick {o : HO} (r : ER K B own ρ k σ H) (hT : B.T = some (t, TownS.town)) (ho : o = .lst (TownS.town (k + 1))) : ER K B own ρ (k + 1) σ (upd H t o) ∧ Stp B H (upd H t o) := by
  have iT : B.isT t := ⟨_, hT⟩
  have s : Stp B H (upd H t o) := fun b u e n => by
    have hne : b ≠ t := fun z => n (z ▸ iT)
    rw [upd_ne hne]
    exact e
  refine ⟨r.step s fun t' f e => ?_, s⟩
  rw [hT] at e
  cases e
  rw [upd_same, ho]
end
def notOf : Expr → Option Expr
  | .UnaryOp .Not x _ => some x
  | _ => none
theorem notOf_inv {e x : Expr} (h : notOf e = some x) : ∃ q, e = .UnaryOp .Not x q := by
  unfold notOf at h
  split at h
  · cases h; exact ⟨_, rfl⟩
  · cases h
section
variable {p : Par} {c : Cnt} {C : Ck} {g : G} {X : Cx} {W : WX} {pos : Pos}
/-- town.append(e), e an int -/
theorem tk_append (G : GoodS p c C g X W) {t : Str} {te : TE} {p1 p2 p3 : Pos} {y : Expr} (hN : C.N[1]? = some t) (hv : visB X.env.scope t = true) (hn : nmOk t = true) (h : PE X y te) (hp : plainX y = true) (hl : p2.endLine = p3.line) :
    PS X (.Expr (.Call (.Attribute (.Name t p1) "append" p2) [y] [] p3) pos) (tDrop (tBM X.K "list" rAppend (tVar 1) (tCons te tNil))) := by
  have st := plain_star (xs := []) (env := X.env) hp
  refine ps_expr (pe_bm PySem.F.plainAttrs_list PySem.F.slot_list_append PySem.F.type_list_append mt_append (pe_var (i := 1) (by rw [G.good.N]; exact hN) (vis_of hv) (nm_of hn).1 (nm_of hn).2.1) (pa_cons h pa_nil st) rfl ?_ ?_ st ?_) rfl
  · rw [st]; rfl
  · rw [hl]; exact beq_self_eq_true _
  · rfl
theorem s_tkb (G : GoodS p c C g X W) {t : Str} {p1 p2 p3 q1 : Pos} {a : Nat} (hN : C.N[1]? = some t) (hv : visB X.env.scope t = true) (hn : nmOk t = true) (hl : p2.endLine = p3.line) :
    PS X (.Expr (.Call (.Attribute (.Name t p1) "append" p2) [.Constant (.int 0) a q1] [] p3) pos) (tS p W g .tkb) :=
  (tk_append G hN hv hn pe_int rfl hl).imp fun D σ H ⟨B, own, ρ, k, er, f⟩ => by
    unfold exe at f
    split at f
    · rename_i hc
      simp only [Bool.and_eq_true] at hc
      obtain ⟨⟨h1, h2⟩, h3⟩ := hc
      have h3 := of_decide_eq_true h3
      obtain ⟨t, e1, e2, e3⟩ := town_at er h1
      rw [G.good.tab.tw] at h2 h3
      have hlen := lim_le h2
      have e4 : H t = some (.lst ((TownS.tw k).map V.int)) := e2
      obtain ⟨er2, s2⟩ := er.tick (o := .lst ((TownS.tw k).map V.int ++ [.int 0])) e3 (by unfold TownS.town; rw [h3, List.map_append]; rfl)
      refine ⟨.ref t, e1, .inl ⟨rfl, _, SqL.of e4⟩, t, _, .int 0, rfl, rfl, e4, ?_, f own σ _ er2 (OS.stp s2 er2)⟩
      rw [List.length_map]
      omega
    · exact f.elim
theorem s_tka (G : GoodS p c C g X W) {t : Str} {e : E} {p0 p1 p2 p3 q1 q2 : Pos} {y : Expr} (hN : C.N[1]? = some t) (hv : visB X.env.scope t = true) (hn : nmOk t = true) (h : PE X y (tE p W g e)) (hp : plainX y = true) (hl : p2.endLine = p3.line) :
    PS X (.If (.UnaryOp .Not (.Name t p0) q1) [.Expr (.Call (.Attribute (.Name t p1) "append" p2) [y] [] p3) q2] [] pos) (tS p W g (.tka e)) :=
  (ps_if (pt_not (pt_truth (pe_var (i := 1) (by rw [G.good.N]; exact hN) (vis_of hv) (nm_of hn).1 (nm_of hn).2.1) fun _ => rfl)) (pss_one (tk_append G hN hv hn h hp hl)) pss_nil).imp fun D σ H ⟨B, own, ρ, k, er, f⟩ => by
    unfold exe at f
    split at f
    · rename_i h1
      obtain ⟨t, e1, e2, e3⟩ := town_at er h1
      rw [G.good.tab.tw] at f
      refine ⟨.ref t, e1, !(TownS.tw k).isEmpty, ?_, ?_⟩
      · rw [G.good.K]
        refine .inl ⟨_, SqL.of e2, ?_⟩
        cases TownS.tw k <;> rfl
      · cases hm : TownS.tw k with
        | nil =>
          rw [hm] at f e2
          dsimp only at f
          refine iteT ⟨.ref t, e1, .inl ⟨rfl, _, SqL.of e2⟩, ?_⟩
          refine tE.go er f fun d k1 v H1 er1 s1 q1 f => ?_
          cases d with
          | int n =>
            dsimp only at f
            split at f
            · rename_i hc
              obtain ⟨hk, ht⟩ := hc
              subst hk
              obtain ⟨t', e1', e2', e3'⟩ := town_at er1 h1
              rw [e3] at e3'
              cases e3'
              rw [hm] at e2'
              rw [(q1.weak er1).int_inv]
              obtain ⟨er2, s2⟩ := er1.tick (o := .lst ([] ++ [.int n])) e3 (by unfold TownS.town; rw [ht]; rfl)
              exact ⟨t, [], .int n, rfl, rfl, e2', by rw [sizeLine_eq]; decide, f own σ _ er2 (OS.stp s2 er2)⟩
            · exact f.elim
          | _ => exact f.elim
        | cons m l =>
          rw [hm] at f e2
          dsimp only at f
          split at f
          · rename_i ht
            refine iteF ?_
            have er2 : ER p.K B own ρ (k + 1) σ H := er.step Stp.refl fun t' f' e' => by
              rw [e3] at e'
              cases e'
              rw [e2]
              unfold TownS.town
              rw [ht]
            exact f own σ H er2 (OS.stp Stp.refl er2)
          · exact f.elim
    · exact f.elim
theorem s_tkc (G : GoodS p c C g X W) {t : Str} {p1 p2 p3 p4 q1 q2 q3 q4 : Pos} {a b a2 : Nat} {j : Int} (hN : C.N[1]? = some t) (hv : visB X.env.scope t = true) (hn : nmOk t = true) :
    PS X (.Assign [.Subscript (.Name t p1) (.Constant (.int 0) a q1) p2] (.BinOp (.Subscript (.Name t p3) (.Constant (.int 0) a2 q2) p4) .FloorDiv (.Constant (.int j) b q3) q4) pos) (tS p W g (.tkc j)) := by
  have pv := fun {q : Pos} => pe_var (X := X) (i := 1) (pos := q) (by rw [G.good.N]; exact hN) (vis_of hv) (nm_of hn).1 (nm_of hn).2.1
  refine (ps_asg (pe_op op_fdiv (pe_ix ix_list pv pe_int (fun _ _ => rfl)) pe_int) (pg_sub pv pe_int L2.set_list) (noComp_sole rfl) rfl rfl).imp fun D σ H ⟨B, own, ρ, k, er, f⟩ => ?_
  unfold exe at f
  split at f
  · rename_i hc
    rw [Bool.and_eq_true] at hc
    have hj := of_decide_eq_true hc.2
    obtain ⟨t, e1, e2, e3⟩ := town_at er hc.1
    rw [G.good.tab.tw] at f
    cases hm : TownS.tw k with
    | nil => rw [hm] at f; exact f.elim
    | cons m l =>
      rw [hm] at f e2
      dsimp only at f
      split at f
      · rename_i ht
        rw [G.good.K]
        obtain ⟨er2, s2⟩ := er.tick (o := .lst (((m :: l).map V.int).set 0 (.int (m / j)))) e3 (by unfold TownS.town; rw [ht]; rfl)
        refine ⟨.ref t, e1, t, _, 0, .int m, rfl, rfl, SqL.of e2, atI_nat (j := 0) rfl, m, j, rfl, rfl, hj, .ref t, e1, t, _, 0, 0, rfl, rfl, e2, ?_, f own σ _ er2 (OS.stp s2 er2)⟩
        unfold ixN
        rw [if_pos (by decide), if_pos (by rw [List.map_cons, List.length_cons]; omega)]
        rfl
      · exact f.elim
  · exact f.elim
def appOf (C : Ck) (sc : Scope) : Stmt → Option (Expr × Pos × Pos)
  | .Expr (.Call (.Attribute o m p2) [y] [] p3) _ => if decide (m = "append") && isNm o C.N[1]? && nmV sc o && decide (p2.endLine = p3.line) then some (y, p2, p3) else none
  | _ => none
theorem appOf_inv {C : Ck} {sc : Scope} {st : Stmt} {y : Expr} {p2 p3 : Pos} (h : appOf C sc st = some (y, p2, p3)) : ∃ t p1 q, st = .Expr (.Call (.Attribute (.Name t p1) "append" p2) [y] [] p3) q ∧ C.N[1]? = some t ∧ visB sc t = true ∧ nmOk t = true ∧ p2.endLine = p3.line := by
  unfold appOf at h
  split at h
  · split at h
    · rename_i hc
      cases h
      simp only [Bool.and_eq_true] at hc
      obtain ⟨⟨⟨h1, h2⟩, h3⟩, h4⟩ := hc
      have h1 := of_decide_eq_true h1
      subst h1
      obtain ⟨t, p1, rfl, e⟩ := isNm_inv h2
      rw [nmV, Bool.and_eq_true] at h3
      exact ⟨t, p1, _, rfl, e.symm ▸ rfl, h3.1, h3.2, of_decide_eq_true h4⟩
    · cases h
  · cases h
def ckTka (C : Ck) (sc : Scope) (ce : Expr → Bool) : Stmt → Bool
  | .If (.UnaryOp .Not x _) [st] [] _ => isNm x C.N[1]? && (match appOf C sc st with
      | some (y, _, _) => ce y
      | none => false)
  | _ => false
theorem ckTka_inv {C : Ck} {sc : Scope} {ce : Expr → Bool} {st : Stmt} (h : ckTka C sc ce st = true) : ∃ t p0 p1 p2 p3 q1 q2 q3 y, st = .If (.UnaryOp .Not (.Name t p0) q1) [.Expr (.Call (.Attribute (.Name t p1) "append" p2) [y] [] p3) q2] [] q3 ∧ C.N[1]? = some t ∧ visB sc t = true ∧ nmOk t = true ∧ p2.endLine = p3.line ∧ ce y = true := by
  unfold ckTka at h
  split at h
  · rename_i x q1 st q3
    rw [Bool.and_eq_true] at h
    obtain ⟨t, p0, rfl, e⟩ := isNm_inv h.1
    have h2 := h.2
    split at h2
    · rename_i y p2 p3 ha
      obtain ⟨t', p1, q, rfl, e', v, m, l⟩ := appOf_inv ha
      rw [e] at e'
      cases e'
      exact ⟨t, p0, p1, p2, p3, q1, q, q3, y, rfl, e, v, m, l, h2⟩
    · cases h2
  · cases h
def ckTkb (C : Ck) (sc : Scope) (st : Stmt) : Bool := match appOf C sc st with
  | some (y, _, _) => isIntC 0 y
  | none => false
def ckTkc (C : Ck) (sc : Scope) (j : Int) : Stmt → Bool
  | .Assign [.Subscript o i _] (.BinOp (.Subscript o2 i2 _) .FloorDiv m _) _ => isNm o C.N[1]? && nmV sc o && isIntC 0 i && isNm o2 C.N[1]? && isIntC 0 i2 && isIntC j m
  | _ => false
theorem ckTkc_inv {C : Ck} {sc : Scope} {j : Int} {st : Stmt} (h : ckTkc C sc j st = true) : ∃ t p1 p2 p3 p4 q1 q2 q3 q4 q5 a b a2, st = .Assign [.Subscript (.Name t p1) (.Constant (.int 0) a q1) p2] (.BinOp (.Subscript (.Name t p3) (.Constant (.int 0) a2 q2) p4) .FloorDiv (.Constant (.int j) b q3) q4) q5 ∧ C.N[1]? = some t ∧ visB sc t = true ∧ nmOk t = true := by
  unfold ckTkc at h
  split at h
  · simp only [Bool.and_eq_true] at h
    obtain ⟨⟨⟨⟨⟨h1, h2⟩, h3⟩, h4⟩, h5⟩, h6⟩ := h
    obtain ⟨t, p1, rfl, e⟩ := isNm_inv h1
    rw [nmV, Bool.and_eq_true] at h2
    obtain ⟨t', p1', rfl, e'⟩ := isNm_inv h4
    rw [e] at e'
    cases e'
    obtain ⟨a, b, rfl⟩ := isIntC_inv h3
    obtain ⟨a', b', rfl⟩ := isIntC_inv h5
    obtain ⟨a2, b2, rfl⟩ := isIntC_inv h6
    exact ⟨_, _, _, _, _, _, _, _, _, _, _, _, _, rfl, e, h2.1, h2.2⟩
  · cases h
end
end Y

namespace Y
open PySem PySem.W PySem.Spec PyProof.Rows L2
variable [TownS]
/-! ### statements against the text -/
def nmOf : Expr → Option (Str × Pos)
  | .Name x q => some (x, q)
  | _ => none
theorem nmOf_inv {e : Expr} {x : Str} {q : Pos} (h : nmOf e = some (x, q)) : e = .Name x q := by
  unfold nmOf at h
  split at h
  · cases h; rfl
  · cases h
def tupOf : Expr → Option (List Expr × Nat × Pos)
  | .Tuple es k q => some (es, k, q)
  | _ => none
theorem tupOf_inv {e : Expr} {es : List Expr} {k : Nat} {q : Pos} (h : tupOf e = some (es, k, q)) : e = .Tuple es k q := by
  unfold tupOf at h
  split at h
  · cases h; rfl
  · cases h
def subOf : Expr → Option (Expr × Expr × Pos)
  | .Subscript o i q => some (o, i, q)
  | _ => none
theorem subOf_inv {e o i : Expr} {q : Pos} (h : subOf e = some (o, i, q)) : e = .Subscript o i q := by
  unfold subOf at h
  split at h
  · cases h; rfl
  · cases h
def asgOf : Stmt → Option (Expr × Expr × Pos)
  | .Assign [t] y q => some (t, y, q)
  | _ => none
theorem asgOf_inv {st : Stmt} {t y : Expr} {q : Pos} (h : asgOf st = some (t, y, q)) : st = .Assign [t] y q := by
  unfold asgOf at h
  split at h
  · cases h; rfl
  · cases h
def exprOf : Stmt → Option (Expr × Pos)
  | .Expr x q => some (x, q)
  | _ => none
theorem exprOf_inv {st : Stmt} {x : Expr} {q : Pos} (h : exprOf st = some (x, q)) : st = .Expr x q := by
  unfold exprOf at h
  split at h
  · cases h; rfl
  · cases h
def callOf : Expr → Option (Expr × Expr × Pos)
  | .Call f [y] [] q => some (f, y, q)
  | _ => none
theorem callOf_inv {e f y : Expr} {q : Pos} (h : callOf e = some (f, y, q)) : e = .Call f [y] [] q := by
  unfold callOf at h
  split at h
  · cases h; rfl
  · cases h
mutual
def ckS (C : Ck) (sc : Scope) : S → Stmt → Bool
  | .bad, _ => true
  | .expr e, st => (match exprOf st with
      | some (x, _) => ck C sc e x && noComp x
      | none => false)
  | .frz _, _ => false
  | .set i _ e, st => (match asgOf st with
      | some (t, y, _) => (match nmOf t with
        | some (x, _) => decide (C.N[i]? = some x) && locB (fun _ => true) sc x && ck C sc e y
        | none => false)
      | none => false)
  | .unp tg e, st => (match asgOf st with
      | some (t, y, _) => isTupX t && ckT C.N (fun _ => true) sc tg t && ck C sc e y && noComp y && swNone sc t y
      | none => false)
  | .par is es, st => (match asgOf st with
      | some (t, y, _) => (match tupOf t, tupOf y with
        | some (ts, _, _), some (vs, _, _) => nmsB C.N sc (is.map (·.1)) ts && decide ((is.map (·.1)).Nodup) && (swNone sc t y || swSome sc ts vs) && lim is.length && cks C sc es vs
        | _, _ => false)
      | none => false)
  | .aug i o e, .AugAssign t op y _ => (match nmOf t with
      | some (x, _) => decide (C.N[i]? = some x) && locB (fun _ => true) sc x && decide (op = binOp o) && ck C sc e y
      | none => false)
  | .app i e, st => (match exprOf st with
      | some (x, _) => (match callOf x with
        | some (f, y, q3) => (match atOf f with
          | some (o, m, q2) => decide (m = "append") && isNm o C.N[i]? && nmV sc o && decide (q2.endLine = q3.line) && ck C sc e y
          | none => false)
        | none => false)
      | none => false)
  | .put i e f, st => (match asgOf st with
      | some (t, z, _) => (match subOf t with
        | some (o, y, _) => isNm o C.N[i]? && nmV sc o && ck C sc e y && ck C sc f z && noComp z
        | none => false)
      | none => false)
  | .iff c a b, .If x sa sb _ => ck C sc c x && ckSs C sc a sa && ckSs C sc b sb
  | .whl c b, .While x sb [] _ => ck C sc c x && ckSs C sc b sb
  | .forr tg it b, .For t i sb [] _ => ckT C.N (fun _ => true) sc tg t && cki C sc it i && pairOk it t && plainX i && ckSs C sc b sb
  | .ret e, .Return (some x) _ => ck C sc e x
  | .tka e, st => ckTka C sc (fun y => ck C sc e y) st
  | .tkb, st => ckTkb C sc st
  | .tkc j, st => ckTkc C sc j st
  | .brk, .Break _ => true
  | .cont, .Continue _ => true
  | .pass, .Pass _ => true
  | .star ts j _ e, st => (match asgOf st with
      | some (t, y, _) => (match tupOf t with
        | some (es, _, _) => (match splitStar es with
          | some (l, n) => (match nmOf n with
            | some (x, _) => decide (C.N[j]? = some x) && locB (fun _ => true) sc x && ckTs C.N (fun _ => true) sc ts l && ck C sc e y && noComp y && swNone sc t y
            | none => false)
          | none => false)
        | none => false)
      | none => false)
  | _, _ => false
def ckSs (C : Ck) (sc : Scope) : Ss → List Stmt → Bool
  | .nil, [] => true
  | .cons (.frz _) ss, sts => ckSs C sc ss sts
  | .cons s ss, st :: sts => ckS C sc s st && ckSs C sc ss sts
  | _, _ => false
end
section
variable {p : Par} {c : Cnt} {C : Ck} {g : G}
mutual
theorem exe_sound {X : Cx} {W : WX} (G : GoodS p c C g X W) : ∀ (s : S) {st : Stmt}, ckS C X.env.scope s st = true → PS X st (tS p W g s)
  | .bad, st, h => ⟨fun pins s σ H D I ⟨_, _, _, _, _, f⟩ => by unfold exe at f; exact f.elim⟩
  | .frz _, st, h => by simp [ckS] at h
  | .expr e, st, h => by
    simp only [ckS] at h
    split at h
    · rename_i x q he
      rw [exprOf_inv he]
      rw [Bool.and_eq_true] at h
      exact s_expr G (ev_sound e G.good h.1).pe h.2
    · cases h
  | .set i o e, st, h => by
    simp only [ckS] at h
    split at h
    · rename_i t y q he
      rw [asgOf_inv he]
      split at h
      · rename_i x px hx
        rw [nmOf_inv hx]
        simp only [Bool.and_eq_true] at h
        obtain ⟨⟨h1, h2⟩, h3⟩ := h
        have h1 := of_decide_eq_true h1
        cases hsw : swB X.env.scope x px y with
        | false => exact s_set G h1 (loc_of h2) (ev_sound e G.good h3).pe (ck_plain h3) hsw
        | true =>
          cases y with
          | ListComp elt gs scope qpos =>
            obtain ⟨hl, hs⟩ := sw_yes (l := q.line) (env := X.env) G.kind hsw
            cases e with
            | comp own tg it d elt' =>
              match gs, h3 with
              | [cl], h3 =>
                obtain ⟨t, i0, ifs, as⟩ := cl
                simp only [ck, Bool.and_eq_true] at h3
                obtain ⟨⟨⟨⟨⟨⟨⟨⟨h0, g1⟩, g2⟩, g3⟩, g4⟩, g7⟩, g8⟩, g5⟩, g6⟩ := h3
                have e0 := of_decide_eq_true h0
                subst e0
                refine (c_setLc G.good h1 hl hs g1 g2 g3 (evi_sound it G.good g4 g7) g8 (fun s H C0 cl fp => ?_) ?_ fun s H C0 cl fp => (ev_sound elt' (G.good.blk s H scope _ fp) g6).pe).imp fun D σ H h => set_imp h
                · match ifs, g5 with
                  | [], _ => exact pts_nil
                  | [y], g5 => exact pts_one (ev_sound d (G.good.blk s H scope _ fp) g5).pt
                  | _ :: _ :: _, g5 => cases g5
                · intro e
                  subst e
                  exact g5
              | [], h3 => simp [ck] at h3
              | _ :: _ :: _, h3 => simp [ck] at h3
            | comp2 own tg it d own1 tg1 it1 d1 elt' =>
              match gs, h3 with
              | [cl, cl1], h3 =>
                obtain ⟨t, i0, ifs, as⟩ := cl
                obtain ⟨t1, i1, ifs1, as1⟩ := cl1
                simp only [ck, Bool.and_eq_true] at h3
                obtain ⟨⟨⟨⟨⟨⟨⟨⟨⟨⟨⟨⟨⟨⟨⟨⟨g0, g1⟩, g2⟩, g3⟩, g4⟩, g5⟩, g6⟩, g7⟩, g8⟩, g9⟩, g10⟩, g11⟩, g12⟩, g13⟩, g14⟩, g15⟩, g16⟩ := h3
                have e0 := of_decide_eq_true g0
                have e1 := of_decide_eq_true g1
                subst e0 e1
                refine (c_setLc2 G.good h1 hl hs g2 g3 g4 g5 g6 g7 (evi_sound it G.good g8 g9) g10 g13 (fun s H C0 cl fp => ?_) ?_ (fun s H C0 cl fp => evi_sound it1 (G.good.blk s H scope _ fp) g11 g12) (fun s H C0 cl fp => ?_) ?_ fun s H C0 cl fp => (ev_sound elt' (G.good.blk s H scope _ fp) g16).pe).imp fun D σ H h => set_imp h
                · match ifs, g14 with
                  | [], _ => exact pts_nil
                  | [y], g14 => exact pts_one (ev_sound d (G.good.blk s H scope _ fp) g14).pt
                  | _ :: _ :: _, g14 => cases g14
                · intro e
                  subst e
                  exact g14
                · match ifs1, g15 with
                  | [], _ => exact pts_nil
                  | [y], g15 => exact pts_one (ev_sound d1 (G.good.blk s H scope _ fp) g15).pt
                  | _ :: _ :: _, g15 => cases g15
                · intro e
                  subst e
                  exact g15
              | [], h3 => simp [ck] at h3
              | [_], h3 => simp [ck] at h3
              | _ :: _ :: _ :: _, h3 => simp [ck] at h3
            | «omit» => exact ⟨fun pins s σ H D I ⟨_, _, _, _, _, f⟩ => by unfold exe ev at f; exact f.elim⟩
            | _ => simp [ck] at h3
          | _ => simp [swB] at hsw
      · cases h
    · cases h
  | .unp tg e, st, h => by
    simp only [ckS] at h
    split at h
    · rename_i t y q he
      rw [asgOf_inv he]
      simp only [Bool.and_eq_true] at h
      obtain ⟨⟨⟨⟨h1, h2⟩, h3⟩, h4⟩, h5⟩ := h
      exact s_unp G (c_tg tg G.good h2 (GoodS.fn G)) (ev_sound e G.good h3).pe h1 h4 h5
    · cases h
  | .par is es, st, h => by
    simp only [ckS] at h
    split at h
    · rename_i t y q he
      rw [asgOf_inv he]
      split at h
      · rename_i ts k1 q1 vs k2 q2 ht hy
        simp only [Bool.and_eq_true] at h
        obtain ⟨⟨⟨⟨h1, h2⟩, h3⟩, h4⟩, h5⟩ := h
        rw [tupOf_inv ht, tupOf_inv hy] at h3 ⊢
        exact s_par G h1 h2 h3 h4 (evs_each es G.good h5) h5
      · cases h
    · cases h
  | .aug i o e, st, h => by
    cases st with
    | AugAssign t op y q =>
      simp only [ckS] at h
      split at h
      · rename_i x px hx
        rw [nmOf_inv hx]
        simp only [Bool.and_eq_true] at h
        obtain ⟨⟨⟨h1, h2⟩, h3⟩, h4⟩ := h
        have h3 := of_decide_eq_true h3
        subst h3
        exact s_aug G (of_decide_eq_true h1) (loc_of h2) (ev_sound e G.good h4).pe
      · cases h
    | _ => simp [ckS] at h
  | .app i e, st, h => by
    simp only [ckS] at h
    split at h
    · rename_i x q he
      rw [exprOf_inv he]
      split at h
      · rename_i f y q3 hf
        rw [callOf_inv hf]
        split at h
        · rename_i o m q2 ha
          rw [atOf_inv ha]
          simp only [Bool.and_eq_true] at h
          obtain ⟨⟨⟨⟨h1, h2⟩, h3⟩, h4⟩, h5⟩ := h
          have h1 := of_decide_eq_true h1
          subst h1
          obtain ⟨x, q1, rfl, e1⟩ := isNm_inv h2
          rw [nmV, Bool.and_eq_true] at h3
          exact s_app G e1 h3.1 h3.2 (ev_sound e G.good h5).pe (ck_plain h5) (of_decide_eq_true h4)
        · cases h
      · cases h
    · cases h
  | .put i e f, st, h => by
    simp only [ckS] at h
    split at h
    · rename_i t z q he
      rw [asgOf_inv he]
      split at h
      · rename_i o y q2 hs
        rw [subOf_inv hs]
        simp only [Bool.and_eq_true] at h
        obtain ⟨⟨⟨⟨h1, h2⟩, h3⟩, h4⟩, h5⟩ := h
        obtain ⟨x, q1, rfl, e1⟩ := isNm_inv h1
        rw [nmV, Bool.and_eq_true] at h2
        exact s_put G e1 h2.1 h2.2 (ev_sound e G.good h3).pe (ev_sound f G.good h4).pe h5
      · cases h
    · cases h
  | .iff d a b, st, h => by
    cases st with
    | If x sa sb q =>
      simp only [ckS, Bool.and_eq_true] at h
      exact s_iff G (ev_sound d G.good h.1.1).pt (exes_sound G a h.1.2) (exes_sound G b h.2)
    | _ => simp [ckS] at h
  | .whl d b, st, h => by
    cases st with
    | While x sb oe q =>
      cases oe with
      | nil =>
        simp only [ckS, Bool.and_eq_true] at h
        exact s_whl G (ev_sound d G.good h.1).pt (exes_sound G b h.2)
      | cons _ _ => simp [ckS] at h
    | _ => simp [ckS] at h
  | .forr tg it b, st, h => by
    cases st with
    | For t i sb oe q =>
      cases oe with
      | nil =>
        simp only [ckS, Bool.and_eq_true] at h
        obtain ⟨⟨⟨⟨h1, h2⟩, h3⟩, h4⟩, h5⟩ := h
        exact s_forr G (evi_sound it G.good h2 h3) h4 (c_tg tg G.good h1 (GoodS.fn G)) (exes_sound G b h5)
      | cons _ _ => simp [ckS] at h
    | _ => simp [ckS] at h
  | .ret e, st, h => by
    cases st with
    | Return v q =>
      cases v with
      | some x =>
        simp only [ckS] at h
        exact s_ret G (ev_sound e G.good h).pe
      | none => simp [ckS] at h
    | _ => simp [ckS] at h
  | .tka e, st, h => by
    simp only [ckS] at h
    obtain ⟨t, p0, p1, p2, p3, q1, q2, q3, y, rfl, n1, v1, m1, l1, hc⟩ := ckTka_inv h
    exact s_tka G n1 v1 m1 (ev_sound e G.good hc).pe (ck_plain hc) l1
  | .tkb, st, h => by
    simp only [ckS, ckTkb] at h
    split at h
    · rename_i y p2 p3 ha
      obtain ⟨t, p1, q, rfl, n1, v1, m1, l1⟩ := appOf_inv ha
      obtain ⟨a, b, rfl⟩ := isIntC_inv h
      exact s_tkb G n1 v1 m1 l1
    · cases h
  | .tkc j, st, h => by
    simp only [ckS] at h
    obtain ⟨t, p1, p2, p3, p4, q1, q2, q3, q4, q5, a, b, a2, rfl, n1, v1, m1⟩ := ckTkc_inv h
    exact s_tkc G n1 v1 m1
  | .brk, st, h => by
    cases st with
    | Break q => exact s_brk
    | _ => simp [ckS] at h
  | .cont, st, h => by
    cases st with
    | Continue q => exact s_cont
    | _ => simp [ckS] at h
  | .pass, st, h => by
    cases st with
    | Pass q => exact s_pass
    | _ => simp [ckS] at h
  | .star ts j o e, st, h => by
    simp only [ckS] at h
    split at h
    · rename_i t y q he
      rw [asgOf_inv he]
      split at h
      · rename_i es k1 q1 ht
        rw [tupOf_inv ht] at h ⊢
        split at h
        · rename_i l n hs
          split at h
          · rename_i x px hx
            simp only [Bool.and_eq_true] at h
            obtain ⟨⟨⟨⟨⟨h1, h2⟩, h3⟩, h4⟩, h5⟩, h6⟩ := h
            obtain ⟨q2, e2⟩ := splitStar_inv hs
            rw [nmOf_inv hx] at e2
            subst e2
            exact s_star G (of_decide_eq_true h1) (loc_of h2) h3 (ev_sound e G.good h4).pe h5 h6
          · cases h
        · cases h
      · cases h
    · cases h
theorem exes_sound {X : Cx} {W : WX} (G : GoodS p c C g X W) : ∀ (ss : Ss) {sts : List Stmt}, ckSs C X.env.scope ss sts = true → PSs X sts (tSs p W g ss)
  | .nil, [], h => s_nil
  | .nil, _ :: _, h => by simp [ckSs] at h
  | .cons (.frz i) ss, sts, h => by
    rw [ckSs] at h
    exact s_frz (exes_sound G ss h)
  | .cons s ss, sts, h => by
    by_cases hf : ∃ i, s = .frz i
    · obtain ⟨i, rfl⟩ := hf
      rw [ckSs] at h
      exact s_frz (exes_sound G ss h)
    · cases sts with
      | nil => cases s <;> first | (exact (hf ⟨_, rfl⟩).elim) | (simp [ckSs] at h)
      | cons st sts =>
        have h2 : ckS C X.env.scope s st = true ∧ ckSs C X.env.scope ss sts = true := by
          cases s <;> first | (exact (hf ⟨_, rfl⟩).elim) | (simpa [ckSs] using h)
        exact s_cons (exe_sound G s h2.1) (exes_sound G ss h2.2)
end
end
end Y

namespace Y
open PySem PySem.W PySem.Spec PyProof.Rows L2
variable [TownS]
/-! ### defs -/
def fin : Out → R (D × Nat)
  | .nx _ k => .ok (.none, k)
  | .rt x k => .ok (x, k)
  | .ex x k => .ex x k
  | _ => .no
/-- a def without draws -/
def runD (g : G) (np n : Nat) (b : Ss) (ds : List D) : R D := if ds.length = np then (match fin (exes g b (ds.map (fun x => some (.d x)) ++ List.replicate n none) 0) with
  | .ok (x, _) => .ok x
  | .ex x k => .ex x k
  | .no => .no) else .no
/-- one of the law's, that draws: the script and the row of draws come first -/
def runT (g : G) (np n : Nat) (b : Ss) (ds : List D) (k : Nat) : R (D × Nat) := if ds.length = np then fin (exes g b (some .scr :: some .town :: (ds.map (fun x => some (.d x)) ++ List.replicate n none)) k) else .no
section
variable {p : Par} {c : Cnt} {C : Ck} {g : G}
def wE (E : XK) : WX := fun cls d _ H => E cls d H
theorem goodS_of {N : List Str} {qual : Str} {scope : Scope} {f : Addr} {cd : Value} {A : Around} {outer : List Env} {s : Shared} {H : Hp} {E : XK} (T : Tab p c C g) (hN : C.N = N) (nd : N.Nodup) (hl : 0 < c.lev) (hk : scope.kind = .function) (hr : Room c.lev (A.deeper (envOfC qual scope s.heap.objs.size f cd))) :
    GoodS p c C g (cxOf (L2.CX c.P c.w) c.P c.w p.K c.mg c.base N qual scope f cd A outer s H E) (wE E) where
  good := ⟨rfl, rfl, rfl, rfl, rfl, hN.symm, by rw [hN]; exact nd, rfl, takes_of rfl rfl rfl rfl, hr, hl, T⟩
  kind := hk
  fn := rfl
  own := passes_of rfl
theorem slots_at {ds : List D} {n i : Nat} {sv : SV} (h : (ds.map (fun x => some (SV.d x)) ++ List.replicate n none)[i]? = some (some sv)) : ∃ d, ds[i]? = some d ∧ sv = .d d := by
  rw [List.getElem?_append] at h
  split at h
  · rw [List.getElem?_map] at h
    cases e : ds[i]? with
    | none => rw [e] at h; cases h
    | some d => rw [e] at h; cases h; exact ⟨d, rfl, rfl⟩
  · rw [List.getElem?_replicate] at h
    split at h <;> cases h
theorem start_at {N : List Str} {vs : List V} {i : Nat} {v : V} (h : vs[i]? = some v) : (L2.start N vs)[i]? = some (some v) := by
  unfold L2.start
  rw [List.getElem?_append_left (by rw [List.length_map]; exact (List.getElem?_eq_some_iff.mp h).1), List.getElem?_map, h]
  rfl
/-- THE RULE for a def without draws -/
theorem fn_plain {x qual : Str} {params : Arguments} {body : List Stmt} {scope : Scope} {dvs : List V} {kws : List (Str × V)} {f : Addr} {fd : FuncData} {N ps : List Str} {b : Ss} (F : FunD p.K x qual params body scope dvs kws f fd) (S : FnScope N ps scope) (T : Tab p c C g) (hN : C.N = N) (hl : 0 < c.lev) (hc : ckSs C scope b body = true) :
    FnOk c.P c.w p.K c.mg c.base (L2.CX c.P c.w) (c.lev + 1) f fd ps (spD p (runD g ps.length (N.length - ps.length) b)) := by
  have hpl : ps.length ≤ N.length := by have := congrArg List.length S.pre; rw [List.length_take] at this; omega
  refine F.ok S (fun vs H Q E ⟨P, ds, h1, h2, h3⟩ => ?_) fun cdv A outer s H vs Q E hr ⟨P, ds, h1, h2, h3⟩ => ?_
  · unfold runD at h3
    split at h3
    · rename_i e; rw [h1.length]; exact e
    · exact h3.elim
  · unfold runD at h3
    split at h3
    · rename_i e
      refine ⟨tSs p (wE E) g b, exes_sound (goodS_of T hN S.nd hl S.kind hr) b hc, ?_⟩
      let B : Bs := ⟨H, P, none, (fun t f h => nomatch h), fun t f h => nomatch h⟩
      have nT : ∀ {a : Addr}, ¬ B.isT a := fun ⟨f, hf⟩ => nomatch hf
      have hh : ∀ a, hid B (fun _ => none) a → P a := fun a h => h.elim id fun ⟨i, h⟩ => nomatch h
      have er : ER p.K B (fun _ => none) (ds.map (fun x => some (.d x)) ++ List.replicate (N.length - ps.length) none) 0 (L2.start N vs) H := {
        len := by
          unfold L2.start
          rw [List.length_append, List.length_append, List.length_map, List.length_map, List.length_replicate, List.length_replicate, h1.length, e]
        inj := fun i j a h => nomatch h
        dom0 := h2
        np := fun i a h => nomatch h
        kind := fun i a h => nomatch h
        new := fun i a h => nomatch h
        base := fun b o e _ => e
        town := fun t f h => nomatch h
        slot := fun i sv h => by
          obtain ⟨d, hd, rfl⟩ := slots_at h
          obtain ⟨v, hv, q⟩ := h1.get hd
          exact ⟨v, start_at hv, q.mono (Hd.less hh)⟩ }
      have sm : ∀ {own' ρ' k' σ' H'}, ER p.K B own' ρ' k' σ' H' → Same H H' := fun er' b o e => er'.base b o e nT
      refine ⟨B, _, _, 0, er, ?_⟩
      cases hx : exes g b (ds.map (fun x => some (.d x)) ++ List.replicate (N.length - ps.length) none) 0 with
      | nx ρ' k' =>
        rw [hx] at h3
        exact fun own' σ' H' er' s' => h3 .non H' (sm er') .non
      | rt d k' =>
        rw [hx] at h3
        exact fun v own' ρ' σ' H' er' s' q => h3 v H' (sm er') q
      | ex d k' =>
        rw [hx] at h3
        exact fun cls dx own' ρ' σ' H' er' s' q => h3 cls dx H' (sm er') q
      | bk _ _ => rw [hx] at h3; exact h3.elim
      | ct _ _ => rw [hx] at h3; exact h3.elim
      | no => rw [hx] at h3; exact h3.elim
    · exact h3.elim
/-- THE RULE for one that draws -/
theorem fn_town {x qual : Str} {params : Arguments} {body : List Stmt} {scope : Scope} {dvs : List V} {kws : List (Str × V)} {f : Addr} {fd : FuncData} {N ps : List Str} {b : Ss} {np : Nat} (F : FunD p.K x qual params body scope dvs kws f fd) (S : FnScope N ps scope) (hp : ps.length = np + 2) (T : Tab p c C g) (hN : C.N = N) (hl : 0 < c.lev) (hc : ckSs C scope b body = true) :
    FnOk c.P c.w p.K c.mg c.base (L2.CX c.P c.w) (c.lev + 1) f fd ps (spT p (runT g np (N.length - ps.length) b)) := by
  have hpl : ps.length ≤ N.length := by have := congrArg List.length S.pre; rw [List.length_take] at this; omega
  refine F.ok S (fun vs H Q E ⟨P, sv, t, k, ws, ds, e1, h1, h2, h3, h4, h5, h6⟩ => ?_) fun cdv A outer s H vs Q E hr ⟨P, sv, t, k, ws, ds, e1, h1, h2, h3, h4, h5, h6⟩ => ?_
  · unfold runT at h6
    split at h6
    · rename_i e
      rw [e1, List.length_cons, List.length_cons, h4.length, e, hp]
    · exact h6.elim
  · unfold runT at h6
    split at h6
    · rename_i e
      refine ⟨tSs p (wE E) g b, exes_sound (goodS_of T hN S.nd hl S.kind hr) b hc, ?_⟩
      let B : Bs := ⟨H, P, some (t, TownS.town), fun t' f h => by cases h; exact h1, fun t' f h => by cases h; rfl⟩
      have iT : ∀ {a : Addr}, B.isT a → a = t := fun ⟨f, hf⟩ => by cases hf; rfl
      have hh : ∀ a, hid B (fun _ => none) a → P a := fun a h => h.elim id fun ⟨i, h⟩ => nomatch h
      have er : ER p.K B (fun _ => none) (some .scr :: some .town :: (ds.map (fun x => some (.d x)) ++ List.replicate (N.length - ps.length) none)) k (L2.start N vs) H := {
        len := by
          unfold L2.start
          rw [e1, List.length_cons, List.length_cons, List.length_append, List.length_append, List.length_map, List.length_map, List.length_replicate, List.length_replicate, List.length_cons, List.length_cons, h4.length, e, hp]
          omega
        inj := fun i j a h => nomatch h
        dom0 := h5
        np := fun i a h => nomatch h
        kind := fun i a h => nomatch h
        new := fun i a h => nomatch h
        base := fun b o e _ => e
        town := fun t' f h => by cases h; exact h2
        slot := fun i sv' h => by
          match i, h with
          | 0, h =>
            cases h
            exact ⟨sv, start_at (by rw [e1]; rfl), h3.mono (Hd.less hh)⟩
          | 1, h =>
            cases h
            exact ⟨.ref t, start_at (by rw [e1]; rfl), t, ⟨_, rfl⟩, rfl⟩
          | i + 2, h =>
            obtain ⟨d, hd, rfl⟩ := slots_at (i := i) (by simpa using h)
            obtain ⟨v, hv, q⟩ := h4.get hd
            exact ⟨v, start_at (by rw [e1]; simpa using hv), q.mono (Hd.less hh)⟩ }
      have sm : ∀ {own' ρ' k' σ' H'}, ER p.K B own' ρ' k' σ' H' → ∀ b o, b ≠ t → H b = some o → H' b = some o := fun er' b o n e => er'.base b o e fun z => n (iT z)
      refine ⟨B, _, _, k, er, ?_⟩
      cases hx : exes g b (some .scr :: some .town :: (ds.map (fun x => some (.d x)) ++ List.replicate (N.length - ps.length) none)) k with
      | nx ρ' k' =>
        rw [hx] at h6
        exact fun own' σ' H' er' s' => h6 .non H' (sm er') (er'.town _ _ rfl) .non
      | rt d k' =>
        rw [hx] at h6
        exact fun v own' ρ' σ' H' er' s' q => h6 v H' (sm er') (er'.town _ _ rfl) q
      | ex d k' =>
        rw [hx] at h6
        exact fun cls dx own' ρ' σ' H' er' s' q => h6 cls dx H' (sm er') (er'.town _ _ rfl) q
      | bk _ _ => rw [hx] at h6; exact h6.elim
      | ct _ _ => rw [hx] at h6; exact h6.elim
      | no => rw [hx] at h6; exact h6.elim
    · exact h6.elim
end
end Y

namespace Y
open PySem PySem.W PySem.Spec PyProof.Rows L2
/-! ### sites -/
section
variable {K : PySem.W.Frag} {x qual : Str} {params : Arguments} {body : List Stmt} {scope : Scope} {kws : List (Str × V)} {f : Addr} {fd : FuncData} {ps : List Str}
theorem kbn_full (F : FunD K x qual params body scope [] kws f fd) (n : Nat) (ks : List Str)
    (h : ∀ (kV doc pm : Value) (an : Option Addr) (cdv ct : Value) (us ws : List Value), us.length = n → ws.length = ks.length → bindArgs (PySem.W.fnOf x qual params body scope .none kV doc pm an cdv ct) ⟨us, ks.zip ws⟩ = pure (ps.zip (us ++ ws))) :
    KBn K fd ps n ks (fun us ws => us ++ ws) (fun vs zs => vs ++ zs) := by
  obtain ⟨oc, od, dV, kV, doc, pm, an, cdv, ct, osl, rfl, lk, hcd, hD, hK⟩ := F.ex
  rcases hD with ⟨_, rfl⟩ | ⟨e, _⟩
  · exact ⟨fun s us ws _ h1 h2 => .of_eq (h kV doc pm an cdv ct us ws h1 h2), fun r1 r2 => r1.append r2⟩
  · exact absurd rfl e
theorem kbn_dflt (F : FunD K x qual params body scope [] kws f fd) (n : Nat) (hk : kws ≠ []) (hn : n + kws.length = ps.length)
    (h : ∀ (D : Addr) (doc pm : Value) (an : Option Addr) (cdv ct : Value) (us ks : List Value), us.length = n → ks.length = kws.length →
      KwChain D ((kws.map (·.1)).zip ks) (bindArgs (PySem.W.fnOf x qual params body scope .none (.ref D) doc pm an cdv ct) ⟨us, []⟩) (ps.zip (us ++ ks))) :
    ∃ ds, KBn K fd ps n [] (fun us _ => us ++ ds) (fun vs _ => vs ++ kws.map (·.2)) := by
  obtain ⟨ds, hv, hb⟩ := F.binds0 n hk hn h
  refine ⟨ds, ⟨fun s us ws X h1 h2 => ?_, fun r1 r2 => r1.append hv⟩⟩
  have hl : ds.length = kws.length := by rw [← hv.length, List.length_map]
  have := hb s us X (by rw [List.length_append, h1, hl, hn])
  simpa using this
end
variable [TownS]
section
variable {p : Par} {c : Cnt}
theorem site_full {f : Addr} {fd : FuncData} {ps : List Str} {k : Nat} {nm : Str} {n : Nat} {ks : List Str} {sem : List D → R D} (F : FnOk c.P c.w p.K c.mg c.base (L2.CX c.P c.w) k f fd ps (spD p sem)) (hk : k ≤ c.lev) (hm : c.mg nm = some (.ref f)) (hkp : PySem.W.keepIn p.K (.ref f) = true)
    (hb : KBn p.K fd ps n ks (fun us ws => us ++ ws) (fun vs zs => vs ++ zs)) : SiteOk p c ⟨nm, n, ks⟩ sem :=
  ⟨⟨f, fd, ps, k, _, _, _, F, hk, hm, hkp, hb, fun vs zs H Q E _ _ h => h⟩⟩
theorem site_dflt {f : Addr} {fd : FuncData} {ps : List Str} {k : Nat} {nm : Str} {n : Nat} {dv : List V} {dd : List D} {sem : List D → R D} (F : FnOk c.P c.w p.K c.mg c.base (L2.CX c.P c.w) k f fd ps (spD p sem)) (hk : k ≤ c.lev) (hm : c.mg nm = some (.ref f)) (hkp : PySem.W.keepIn p.K (.ref f) = true)
    (hb : ∃ ds, KBn p.K fd ps n [] (fun us _ => us ++ ds) (fun vs _ => vs ++ dv)) (hd : ∀ G, Rps p.K G dv dd) : SiteOk p c ⟨nm, n, []⟩ (fun ds => sem (ds ++ dd)) := by
  obtain ⟨ds, hb⟩ := hb
  refine ⟨⟨f, fd, ps, k, _, _, _, F, hk, hm, hkp, hb, fun vs zs H Q E h1 h2 h => ?_⟩⟩
  have e : zs = [] := List.length_eq_zero_iff.mp h2
  subst e
  rw [List.append_nil] at h
  obtain ⟨P, ds', q1, q2, q3⟩ := h
  exact ⟨P, ds' ++ dd, q1.append (hd _), q2, q3⟩
theorem site_town {f : Addr} {fd : FuncData} {ps : List Str} {k : Nat} {nm : Str} {sem : List D → Nat → R (D × Nat)} (F : FnOk c.P c.w p.K c.mg c.base (L2.CX c.P c.w) k f fd ps (spT p sem)) (hk : k ≤ c.lev) (hm : c.mg nm = some (.ref f)) (hkp : PySem.W.keepIn p.K (.ref f) = true) (hb : Binds p.K fd ps []) : SiteT p c nm sem :=
  ⟨⟨f, fd, ps, k, F, hk, hm, hkp, hb⟩⟩
theorem fn_no {f : Addr} {fd : FuncData} {ps : List Str} {k : Nat} : FnOk c.P c.w p.K c.mg c.base (L2.CX c.P c.w) k f fd ps (spD p fun _ => .no) :=
  ⟨fun _ _ _ _ ⟨_, _, _, _, h⟩ => h.elim, fun _ _ _ _ _ _ _ _ _ _ _ _ _ ⟨_, _, _, _, h⟩ => h.elim⟩
theorem fn_noT {f : Addr} {fd : FuncData} {ps : List Str} {k : Nat} : FnOk c.P c.w p.K c.mg c.base (L2.CX c.P c.w) k f fd ps (spT p fun _ _ => .no) :=
  ⟨fun _ _ _ _ ⟨_, _, _, _, _, _, _, _, _, _, _, _, h⟩ => h.elim, fun _ _ _ _ _ _ _ _ _ _ _ _ _ ⟨_, _, _, _, _, _, _, _, _, _, _, _, h⟩ => h.elim⟩
end
/-! ### tables -/
def mkCk (N : List Str) (sites : List Site) (cts gns bl : List Str) : Ck := ⟨N, fun j => gns[j]?, fun j => sites[j]?, fun j => cts[j]?, bl⟩
def mkG (fns : List (List D → R D)) (fts : List (List D → Nat → R (D × Nat))) (gls : List D) (om : Nat → Nat) (fuel : Nat) (tw : Nat → List Int) (scr : D) : G :=
  ⟨fun j => fns.getD j fun _ => .no, fun j => fts.getD j fun _ _ => .no, fun j => gls.getD j .none, om, fuel, tw, scr⟩
inductive All2 {α β : Type} (R : α → β → Prop) : List α → List β → Prop
  | nil : All2 R [] []
  | cons {a : α} {b : β} {l : List α} {m : List β} : R a b → All2 R l m → All2 R (a :: l) (b :: m)
theorem All2.get {α β : Type} {R : α → β → Prop} {z : β} : ∀ {l : List α} {m : List β}, All2 R l m → ∀ (j : Nat) a, l[j]? = some a → R a (m.getD j z)
  | _, _, .nil, j, a, h => by simp at h
  | _, _, .cons r t, 0, a, h => by simp at h; subst h; exact r
  | _, _, .cons r t, j + 1, a, h => by
    have := All2.get (z := z) t j a (by simpa using h)
    simpa using this
section
variable {p : Par} {c : Cnt} {N : List Str} {sites : List Site} {cts gns bl : List Str} {fns : List (List D → R D)} {fts : List (List D → Nat → R (D × Nat))} {gls : List D} {om : Nat → Nat} {fuel : Nat}
def GlOk (p : Par) (c : Cnt) (x : Str) (d : D) : Prop := ∃ v u, c.mg x = some u ∧ RelV v u ∧ ∀ H, Rp p.K H v d
theorem mkTab (h1 : All2 (SiteOk p c) sites fns) (h2 : All2 (SiteT p c) cts fts) (h3 : All2 (GlOk p c) gns gls) (h4 : ∀ x ∈ bl, c.mg x = none) : Tab p c (mkCk N sites cts gns bl) (mkG fns fts gls om fuel TownS.tw TownS.scr) where
  site := fun j st h => h1.get j st h
  siteT := fun j nm h => h2.get j nm h
  gl := fun j x h => h3.get j x h
  bl := h4
  tw := rfl
  scr := rfl
/-! ### the law -/
theorem fn_law {x qual : Str} {params : Arguments} {body : List Stmt} {scope : Scope} {kws : List (Str × V)} {f : Addr} {fd : FuncData} {ps1 ps2 : Str} {q1 q2 q3 : Pos} {st : List Stmt} {b : Ss} {C : Ck} {g : G} {NN : List Str} (F : FunD p.K x qual params body scope [] kws f fd) (S : FnScope (ps1 :: ps2 :: NN) [ps1] scope)
    (hbd : body = .Assign [.Name ps2 q1] (.List [] q2) q3 :: st) (hl2 : scope.names.lookup ps2 = some .local ∨ scope.names.lookup ps2 = some .cell) (T : Tab p c C g) (hN : C.N = ps1 :: ps2 :: NN) (hl : 0 < c.lev) (hc : ckSs C scope b st = true) (ht : TownS.tw 0 = []) {k' : Nat}
    (hx : exes g b (some .scr :: some .town :: List.replicate NN.length none) 0 = .rt (.bool true) k') :
    FnOk c.P c.w p.K c.mg c.base (L2.CX c.P c.w) (c.lev + 1) f fd [ps1] (fun vs H Q _ => ∃ v, vs = [v] ∧ Rp p.K H v TownS.scr ∧ ∀ H', Q (.bl true) H') := by
  refine F.ok S (fun vs H Q E ⟨v, e, _⟩ => by rw [e]; rfl) fun cdv A outer s H vs Q E hr ⟨v, e, h1, h2⟩ => ?_
  subst e
  have G := goodS_of (qual := qual) (f := f) (cd := cdv) (A := A) (outer := outer) (s := s) (H := H) (E := E) T hN S.nd hl S.kind hr
  rw [hbd]
  refine ⟨_, pss_cons (ps_set (i := 1) S.nd rfl (hl2.elim .inl .inr) (pe_lst pa_nil) rfl (.inl rfl)) (exes_sound G b hc), ?_⟩
  refine ⟨Nat.zero_le _, fun o no => ?_⟩
  let B : Bs := ⟨H, fun a => a = o, some (o, TownS.town), fun t' f h => by cases h; rfl, fun t' f h => by cases h; rfl⟩
  have hh : ∀ a, hid B (fun _ => none) a → a = o := fun a h => h.elim id fun ⟨i, h⟩ => nomatch h
  have sm : ∀ a u, H a = some u → Hd (upd H o (.lst [])) (hid B fun _ => none) a = some u := fun a u e => by
    have hne : a ≠ o := fun z => by rw [z, no] at e; cases e
    exact Hd.at (fun z => hne (hh a z)) (by rw [upd_ne hne]; exact e)
  have er : ER p.K B (fun _ => none) (some .scr :: some .town :: List.replicate NN.length none) 0 ((L2.start (ps1 :: ps2 :: NN) [v]).set 1 (some (.ref o))) (upd H o (.lst [])) := {
    len := by
      rw [List.length_set]
      unfold L2.start
      rw [List.length_append, List.length_map, List.length_replicate, List.length_cons, List.length_cons, List.length_replicate, List.length_cons, List.length_cons, List.length_cons, List.length_nil]
      omega
    inj := fun i j a h => nomatch h
    dom0 := fun a h => by
      have h : a = o := h
      rw [h, upd_same]
      simp
    np := fun i a h => nomatch h
    kind := fun i a h => nomatch h
    new := fun i a h => nomatch h
    base := fun b' u e n => by
      have hne : b' ≠ o := fun z => n ⟨_, by rw [z]⟩
      rw [upd_ne hne]
      exact e
    town := fun t' f h => by
      cases h
      rw [upd_same]
      unfold TownS.town
      rw [ht]
      rfl
    slot := fun i sv h => by
      match i, h with
      | 0, h =>
        cases h
        exact ⟨v, by rw [List.getElem?_set_ne (by decide)]; rfl, h1.mono sm⟩
      | 1, h =>
        cases h
        refine ⟨.ref o, List.getElem?_set_self (by
          unfold L2.start
          rw [List.length_append, List.length_map, List.length_replicate, List.length_cons, List.length_cons, List.length_cons, List.length_nil]
          omega), o, ⟨_, rfl⟩, rfl⟩
      | i + 2, h =>
        have h : (List.replicate NN.length (none : Option SV))[i]? = some (some sv) := by simpa using h
        rw [List.getElem?_replicate] at h
        split at h <;> cases h }
  refine ⟨B, _, _, 0, er, ?_⟩
  rw [hx]
  exact fun u own' ρ' σ' H' er' s' q => by
    rw [Rp.bool_inv q]
    exact h2 H'
end
/-! ### the draws -/
def maxA (ns : List Int) : Int := (ns.map fun i => if i < 0 then -i else i).foldl (fun a b => if a < b then b else a) 0
/-- behind so many draws, by small steps: three of them are one draw -/
def twI (ns : List Int) (k : Nat) : List Int :=
  if k = 0 then [] else
  let d := (k - 1) / 3
  let m := if k % 3 = 0 then k / 3 else d
  (maxA0 ns / 65536 ^ m) :: List.replicate (if k % 3 = 1 then d else d + 1) 0
where maxA0 (ns : List Int) : Int := match maxI ((ns.map fun i => if i < 0 then -i else i) ++ [0]) with
  | some m => m
  | none => 0
def scI (ns : List Int) : D := .list (ns.map .int)
@[reducible] def twn (ns : List Int) : TownS := ⟨twI ns, scI ns⟩
def par (K : PySem.W.Frag) : Par := ⟨K, fun _ _ _ _ => False⟩
omit [TownS] in
theorem sub_mem {l m : List Str} (h : (l.all fun x => m.contains x) = true) {x : Str} (hx : x ∈ l) : x ∈ m := by
  have := List.all_eq_true.mp h x hx
  simpa using this
/-- the law's promise -/
def spLaw (K : PySem.W.Frag) : Sp := fun vs H Q _ => ∃ (a : Addr) (ns : List Int), vs = [.ref a] ∧ SqL K H a (ns.map V.int) ∧ ns.length ≤ 63 ∧ ∀ H', Q (.bl true) H'
omit [TownS] in
theorem ints_rps {K : PySem.W.Frag} {G : Hp} : ∀ {ns : List Int}, Rps K G (ns.map V.int) (ns.map PyData.int)
  | [] => .nil
  | _ :: _ => .cons (.int _) ints_rps
omit [TownS] in
theorem law_all {P : Program} {w : World} {K : PySem.W.Frag} {mg : Str → Option Value} {base : Heap} {CX : CXT} {k : Nat} {f : Addr} {fd : FuncData} {ps : List Str}
    (F : ∀ ns : List Int, ns.length ≤ 63 → FnOk P w K mg base CX k f fd ps (fun vs H Q _ => ∃ v, vs = [v] ∧ Rp K H v (scI ns) ∧ ∀ H', Q (.bl true) H')) : FnOk P w K mg base CX k f fd ps (spLaw K) := by
  have key : ∀ vs H (Q : VK) (E : XK), spLaw K vs H Q E → ∃ ns : List Int, ns.length ≤ 63 ∧ ∃ v, vs = [v] ∧ Rp K H v (scI ns) ∧ ∀ H', Q (.bl true) H' := fun vs H Q E ⟨a, ns, e, hS, hl, q⟩ => by
    refine ⟨ns, hl, .ref a, e, .lst hS ?_ ints_rps, q⟩
    rw [List.length_map, sizeLine_eq]
    omega
  refine ⟨fun vs H Q E h => ?_, fun A outer s H args us vs Q E hr he hb hv h => ?_⟩
  · obtain ⟨ns, hl, r⟩ := key vs H Q E h
    exact (F ns hl).len vs H Q E r
  · obtain ⟨ns, hl, r⟩ := key vs H Q E h
    exact (F ns hl).run A outer s H args us vs Q E hr he hb hv r
omit [TownS] in
theorem kw_cons {K : PySem.W.Frag} {D : Addr} {x : Str} {v : V} {u : Value} {l : List (Str × V)} (h : PySem.W.nsIn K D x = some (some u)) (r : RelV v u) (t : ∀ q ∈ l, ∃ u, PySem.W.nsIn K D q.1 = some (some u) ∧ RelV q.2 u) : ∀ q ∈ (x, v) :: l, ∃ u, PySem.W.nsIn K D q.1 = some (some u) ∧ RelV q.2 u := fun q hq => by
  rcases List.mem_cons.mp hq with rfl | hq
  · exact ⟨u, h, r⟩
  · exact t q hq
omit [TownS] in
theorem bl_cons {mg : Str → Option Value} {x : Str} {l : List Str} (h : mg x = none) (t : ∀ y ∈ l, mg y = none) : ∀ y ∈ x :: l, mg y = none := fun y hy => by
  rcases List.mem_cons.mp hy with rfl | hy
  · exact h
  · exact t y hy
end Y

namespace Y
open PySem PySem.W PySem.Spec PyProof.Rows L2
/-! ### a draw -/
def bDraw : Ss :=
  .cons (.tka (.bi .max (.bin .add (.comp [3] (.nm 3) (.lst (.var 0)) (.cst (.bool true)) (.bi .abs (.var 3))) (.lst (.cons (.cst (.int 0)) .nil)))))
  (.cons .tkb (.cons (.set 4 false .twl) (.cons (.set 3 false (.ite (.var 0) (.ix (.var 0) (.bin .mod (.var 4) (.bi .len (.var 0)))) (.cst (.int 0))))
  (.cons (.set 5 false (.twm 65536)) (.cons (.tkc 65536)
  (.cons (.set 6 false (.bin .mod (.bin .add (.bin .add (.var 3) (.bin .mul (.cst (.int 40503)) (.var 5))) (.bin .mul (.cst (.int 104729)) (.var 4))) (.cst (.int 4294967291))))
  (.cons (.set 6 false (.bin .mod (.bin .mul (.bin .mod (.bin .mul (.var 6) (.var 6)) (.cst (.int 4294967279))) (.cst (.int 48271))) (.cst (.int 4294967291))))
  (.cons (.set 7 false (.bin .mod (.bin .mul (.bin .mod (.bin .mul (.var 6) (.var 6)) (.cst (.int 4294967279))) (.cst (.int 69621))) (.cst (.int 4294967291))))
  (.cons (.ret (.bin .mod (.bin .add (.bin .mul (.bin .fdiv (.var 6) (.cst (.int 64))) (.cst (.int 67108864))) (.bin .fdiv (.var 7) (.cst (.int 64)))) (.var 2))) .nil)))))))))
theorem go_ok {x : D} {k : Nat} {f : D → Nat → Out} : R.go (.ok (x, k)) f = f x k := rfl
theorem go_nx {ρ : Rho} {k : Nat} {f : Rho → Nat → Out} : Out.go (.nx ρ k) f = f ρ k := rfl
theorem exes_cons {g : G} {s : S} {ss : Ss} {ρ : Rho} {k : Nat} : exes g (.cons s ss) ρ k = (exe g s ρ k).go (exes g ss) := rfl
def absI (i : Int) : Int := if i < 0 then -i else i
theorem comp_abs {g : G} {ρ : Rho} (h : ρ.length = 8) : ∀ {l : List Int} {k : Nat}, compL (fun x => bindT (.nm 3) x (wipeR ρ [3])) (fun ρ k => tstR (ev g (.cst (.bool true)) ρ k)) (fun ρ k => if kdOf ρ (.bi .abs (.var 3)) = .tr then R.no else (ev g (.bi .abs (.var 3)) ρ k).nox) (l.map .int) k = .ok (l.map fun i => .int (absI i), k)
  | [], k => rfl
  | i :: l, k => by
    have hl : 3 < (wipeR ρ [3]).length := by simp [wipeR, h]
    rw [List.map_cons]
    unfold compL
    have e1 : bindT (.nm 3) (.int i) (wipeR ρ [3]) = some ((wipeR ρ [3]).set 3 (some (.d (.int i)))) := by
      unfold bindT
      rw [if_pos hl]
    rw [e1]
    dsimp only
    have e2 : tstR (ev g (.cst (.bool true)) ((wipeR ρ [3]).set 3 (some (.d (.int i)))) k) = .ok (true, k) := rfl
    rw [e2, bind_ok]
    dsimp only
    rw [if_pos rfl, if_neg (by unfold kdOf; decide)]
    have e3 : (ev g (.bi .abs (.var 3)) ((wipeR ρ [3]).set 3 (some (.d (.int i)))) k).nox = .ok (.int (absI i), k) := by
      simp only [ev, List.getElem?_set_self hl]
      rfl
    rw [e3, bind_ok]
    dsimp only
    rw [comp_abs h, bind_ok]
    rfl
theorem ints_of_abs : ∀ {l : List Int}, intsOf ((l.map fun i => PyData.int (absI i)) ++ [.int 0]) = some ((l.map absI) ++ [0])
  | [] => rfl
  | i :: l => by
    have ih := ints_of_abs (l := l)
    simp only [List.map_cons, List.cons_append, intsOf, intOf, ih]
    rfl
def mxI (ns : List Int) : Int := twI.maxA0 ns
theorem mx_eq {ns : List Int} : maxI ((ns.map absI) ++ [0]) = some (mxI ns) := by
  unfold mxI twI.maxA0
  have e : (ns.map fun i => if i < 0 then -i else i) = ns.map absI := rfl
  rw [e]
  cases ns with
  | nil => rfl
  | cons x l => rfl
theorem tw0 {ns : List Int} {d : Nat} : twI ns (3 * d) = if d = 0 then [] else (mxI ns / 65536 ^ d) :: List.replicate d 0 := by
  unfold twI
  by_cases h : d = 0
  · subst h; rfl
  · rw [if_neg (by omega), if_neg h]
    have h1 : 3 * d % 3 = 0 := by omega
    have h2 : 3 * d / 3 = d := by omega
    have h3 : (3 * d - 1) / 3 + 1 = d := by omega
    simp only [h1, h2]
    rw [if_pos trivial, if_neg (by decide), h3]
    rfl
theorem tw1 {ns : List Int} {d : Nat} : twI ns (3 * d + 1) = (mxI ns / 65536 ^ d) :: List.replicate d 0 := by
  unfold twI
  rw [if_neg (by omega)]
  have h1 : (3 * d + 1) % 3 = 1 := by omega
  have h2 : (3 * d + 1 - 1) / 3 = d := by omega
  simp only [h1, h2]
  rfl
theorem tw2 {ns : List Int} {d : Nat} : twI ns (3 * d + 2) = (mxI ns / 65536 ^ d) :: List.replicate (d + 1) 0 := by
  unfold twI
  rw [if_neg (by omega)]
  have h1 : (3 * d + 2) % 3 = 2 := by omega
  have h2 : (3 * d + 2 - 1) / 3 = d := by omega
  simp only [h1, h2]
  rfl
theorem tw3 {ns : List Int} {d : Nat} : twI ns (3 * d + 3) = (mxI ns / 65536 ^ d / 65536) :: List.replicate (d + 1) 0 := by
  have e : 3 * d + 3 = 3 * (d + 1) := by omega
  rw [e, tw0, if_neg (by omega), Int.ediv_ediv_of_nonneg (by exact Int.pow_nonneg (by decide)), Int.pow_succ]
/-- what a draw's machine must know of the script -/
structure GDraw (g : G) (ns : List Int) : Prop where
  tw : g.tw = twI ns
  scr : g.scr = scI ns
theorem ev_max {g : G} {ns : List Int} (hg : GDraw g ns) (hl : ns.length ≤ 63) {ρ : Rho} {k : Nat} (h0 : ρ[0]? = some (some .scr)) (h3 : ρ[3]? = some none) (hlen : ρ.length = 8) :
    ev g (.bi .max (.bin .add (.comp [3] (.nm 3) (.lst (.var 0)) (.cst (.bool true)) (.bi .abs (.var 3))) (.lst (.cons (.cst (.int 0)) .nil)))) ρ k = .ok (.int (mxI ns), k) := by
  have e1 : evi g (.lst (.var 0)) ρ k = .ok (ns.map .int, k) := by
    simp only [evi, ev, h0, hg.scr]
    rfl
  have hw : wipeOk ρ [3] = true := by
    unfold wipeOk
    simp only [List.all_cons, List.all_nil, h3]
    rfl
  have e2 : ev g (.comp [3] (.nm 3) (.lst (.var 0)) (.cst (.bool true)) (.bi .abs (.var 3))) ρ k = .ok (.list (ns.map fun i => .int (absI i)), k) := by
    unfold ev
    rw [hw]
    show (evi g (.lst (.var 0)) ρ k >>= _) = _
    rw [e1, bind_ok]
    dsimp only
    rw [comp_abs hlen, bind_ok]
    rfl
  have e3 : ev g (.lst (.cons (.cst (.int 0)) .nil)) ρ k = .ok (.list [.int 0], k) := rfl
  have e4 : ev g (.bin .add (.comp [3] (.nm 3) (.lst (.var 0)) (.cst (.bool true)) (.bi .abs (.var 3))) (.lst (.cons (.cst (.int 0)) .nil))) ρ k = .ok (.list ((ns.map fun i => .int (absI i)) ++ [.int 0]), k) := by
    unfold ev
    rw [e2, bind_ok]
    dsimp only
    rw [e3, bind_ok]
    dsimp only
    have hz : lim ((ns.map fun i => PyData.int (absI i)).length + [PyData.int 0].length) = true := by
      unfold lim
      rw [List.length_map, List.length_singleton]
      exact decide_eq_true (by omega)
    have e5 : binD .add (.list (ns.map fun i => .int (absI i))) (.list [.int 0]) = some (.list ((ns.map fun i => .int (absI i)) ++ [.int 0])) := by
      unfold binD
      dsimp only
      rw [if_pos hz]
    rw [e5]
    rfl
  unfold ev
  rw [e4, bind_ok]
  dsimp only
  have e6 : biD .max (.list ((ns.map fun i => .int (absI i)) ++ [.int 0])) = some (.int (mxI ns)) := by
    unfold biD
    dsimp only
    rw [ints_of_abs]
    show (maxI _).map _ = _
    rw [mx_eq]
    rfl
  rw [e6]
  rfl
theorem atI_mod {l : List D} {k : Int} (h : l ≠ []) : ∃ x, L2.atI l (k % (l.length : Int)) = some x := by
  have hp : 0 < (l.length : Int) := by
    have := List.length_pos_iff.mpr h
    omega
  have h1 := Int.emod_nonneg k (Int.ne_of_gt hp)
  have h2 := Int.emod_lt_of_pos k hp
  unfold L2.atI L2.ixN
  rw [if_pos h1, if_pos h2]
  refine ⟨l[(k % (l.length : Int)).toNat]'(by omega), ?_⟩
  show l[(k % (l.length : Int)).toNat]? = _
  rw [List.getElem?_eq_getElem (by omega)]
theorem atI_mem {l : List D} {i : Int} {x : D} (h : L2.atI l i = some x) : x ∈ l := by
  unfold L2.atI at h
  cases hx : L2.ixN l.length i with
  | none => rw [hx] at h; cases h
  | some j =>
    rw [hx] at h
    exact List.mem_of_getElem? h
theorem ev_cell {g : G} {ns : List Int} (hg : GDraw g ns) {ρ : Rho} {k : Nat} {m : Int} (h0 : ρ[0]? = some (some .scr)) (h4 : ρ[4]? = some (some (.d (.int m)))) :
    ∃ c : Int, ev g (.ite (.var 0) (.ix (.var 0) (.bin .mod (.var 4) (.bi .len (.var 0)))) (.cst (.int 0))) ρ k = .ok (.int c, k) := by
  cases ns with
  | nil =>
    refine ⟨0, ?_⟩
    simp only [ev, h0, hg.scr]
    rfl
  | cons a ns =>
    obtain ⟨x, hx⟩ := atI_mod (l := (a :: ns).map PyData.int) (k := m) (by simp)
    obtain ⟨c, _, ec⟩ := List.mem_map.mp (atI_mem hx)
    refine ⟨c, ?_⟩
    have hp : decide ((0 : Int) < (((a :: ns).map PyData.int).length : Int)) = true := decide_eq_true (by rw [List.length_map, List.length_cons]; omega)
    have e1 : ev g (.var 0) ρ k = .ok (.list ((a :: ns).map .int), k) := by
      simp only [ev, h0, hg.scr]
      rfl
    have e2 : ev g (.bin .mod (.var 4) (.bi .len (.var 0))) ρ k = .ok (.int (m % (((a :: ns).map PyData.int).length : Int)), k) := by
      unfold ev
      have e3 : ev g (.var 4) ρ k = .ok (.int m, k) := by simp only [ev, h4]
      have e4 : ev g (.bi .len (.var 0)) ρ k = .ok (.int (((a :: ns).map PyData.int).length : Int), k) := by
        unfold ev
        rw [e1]
        rfl
      rw [e3, bind_ok]
      dsimp only
      rw [e4, bind_ok]
      dsimp only
      unfold binD
      dsimp only
      rw [if_pos hp]
      rfl
    unfold ev
    rw [e1, bind_ok]
    dsimp only
    have e5 : truD (.list ((a :: ns).map .int)) = some true := rfl
    rw [e5]
    show ev g (.ix (.var 0) _) ρ k = _
    unfold ev
    rw [e1, bind_ok]
    dsimp only
    rw [e2, bind_ok]
    dsimp only
    unfold ixD
    dsimp only
    rw [hx, ← ec]
    rfl
theorem small_of {a b : Int} (h : 0 ≤ a ∧ a < b) (hb : b ≤ 4294967296) : small64 a = true := by
  unfold small64
  refine decide_eq_true ?_
  have : (2 : Int) ^ 64 = 18446744073709551616 := by decide
  omega
theorem mul_small {a b : Int} (h : small64 b = true) : binD .mul (.int a) (.int b) = some (.int (a * b)) := by
  unfold binD
  dsimp only
  rw [h, Bool.or_true]
  rfl
theorem mul_small' {a b : Int} (h : small64 a = true) : binD .mul (.int a) (.int b) = some (.int (a * b)) := by
  unfold binD
  dsimp only
  rw [h, Bool.true_or]
  rfl
theorem mod_pos {a b : Int} (h : 0 < b) : binD .mod (.int a) (.int b) = some (.int (a % b)) := by
  unfold binD
  dsimp only
  rw [if_pos (decide_eq_true h)]
theorem fdiv_64 {a : Int} : binD .fdiv (.int a) (.int 64) = some (.int (a / 64)) := rfl
theorem add_int {a b : Int} : binD .add (.int a) (.int b) = some (.int (a + b)) := rfl
theorem ev_bin {g : G} {o : Bin} {a b : E} {ρ : Rho} {k k1 k2 : Nat} {x y z : D} (h1 : ev g a ρ k = .ok (x, k1)) (h2 : ev g b ρ k1 = .ok (y, k2)) (h : binD o x y = some z) : ev g (.bin o a b) ρ k = .ok (z, k2) := by
  unfold ev
  rw [h1, bind_ok]
  dsimp only
  rw [h2, bind_ok]
  dsimp only
  rw [h]
  rfl
theorem ev_varD {g : G} {i : Nat} {ρ : Rho} {k : Nat} {x : D} (h : ρ[i]? = some (some (.d x))) : ev g (.var i) ρ k = .ok (x, k) := by
  unfold ev
  rw [h]
theorem ev_cst {g : G} {ρ : Rho} {k : Nat} {x : D} : ev g (.cst x) ρ k = .ok (x, k) := rfl
theorem exe_set {g : G} {i : Nat} {e : E} {ρ : Rho} {k k1 : Nat} {x : D} (h : ev g e ρ k = .ok (x, k1)) (hk : kdOf ρ e ≠ .tr) (hi : i < ρ.length) : exe g (.set i false e) ρ k = .nx (ρ.set i (some (.d x))) k1 := by
  unfold exe
  rw [h, go_ok]
  unfold setSV
  rw [if_neg (by decide), if_neg hk]
  unfold putS
  dsimp only
  rw [if_pos hi]
theorem ne_tr {kd : Kd} (h : kd = .pl) : kd ≠ .tr := by
  rw [h]
  decide
theorem draw_run {g : G} {ns : List Int} (hg : GDraw g ns) (hl : ns.length ≤ 63) {d : Nat} (hd : d < 1000000) {n : Int} (hn : 0 < n) : ∃ m : Int, 0 ≤ m ∧ m < n ∧ runT g 1 5 bDraw [.int n] (3 * d) = .ok (.int m, 3 * (d + 1)) := by
  unfold runT
  rw [if_pos (show [PyData.int n].length = 1 from rfl)]
  let ρ0 : Rho := [some .scr, some .town, some (.d (.int n)), none, none, none, none, none]
  have e0 : (some SV.scr :: some SV.town :: ([PyData.int n].map (fun x => some (SV.d x)) ++ List.replicate 5 none)) = ρ0 := rfl
  rw [e0]
  -- the row's three steps
  have hm := ev_max hg hl (ρ := ρ0) (k := 3 * d) rfl rfl rfl
  have s1 : exe g (.tka (.bi .max (.bin .add (.comp [3] (.nm 3) (.lst (.var 0)) (.cst (.bool true)) (.bi .abs (.var 3))) (.lst (.cons (.cst (.int 0)) .nil))))) ρ0 (3 * d) = .nx ρ0 (3 * d + 1) := by
    unfold exe
    rw [if_pos (show isTown ρ0 = true from rfl), hg.tw, tw0, tw1]
    by_cases h : d = 0
    · subst h
      rw [if_pos rfl]
      dsimp only
      rw [hm, go_ok]
      dsimp only
      rw [if_pos ⟨rfl, by simp⟩]
    · rw [if_neg h]
      dsimp only
      rw [if_pos rfl]
  have s2 : exe g .tkb ρ0 (3 * d + 1) = .nx ρ0 (3 * d + 2) := by
    unfold exe
    rw [hg.tw, tw1, tw2, if_pos]
    simp only [Bool.and_eq_true]
    refine ⟨⟨rfl, ?_⟩, decide_eq_true ?_⟩
    · unfold lim
      rw [List.length_cons, List.length_replicate]
      exact decide_eq_true (by omega)
    · rw [List.cons_append, List.replicate_succ']
  have hlen : (((mxI ns / 65536 ^ d) :: List.replicate (d + 1) 0 : List Int).length : Int) = ((d + 2 : Nat) : Int) := by
    rw [List.length_cons, List.length_replicate]
  let ρ1 : Rho := [some .scr, some .town, some (.d (.int n)), none, some (.d (.int ((d + 2 : Nat) : Int))), none, none, none]
  have s3 : exe g (.set 4 false .twl) ρ0 (3 * d + 2) = .nx ρ1 (3 * d + 2) := by
    refine exe_set (x := .int ((d + 2 : Nat) : Int)) ?_ (ne_tr rfl) (Nat.le_of_ble_eq_true rfl)
    unfold ev
    rw [if_pos (show isTown ρ0 = true from rfl), hg.tw, tw2, hlen]
  obtain ⟨cl, hcl⟩ := ev_cell hg (ρ := ρ1) (k := 3 * d + 2) (m := ((d + 2 : Nat) : Int)) rfl rfl
  let ρ2 : Rho := [some .scr, some .town, some (.d (.int n)), some (.d (.int cl)), some (.d (.int ((d + 2 : Nat) : Int))), none, none, none]
  have s4 : exe g (.set 3 false (.ite (.var 0) (.ix (.var 0) (.bin .mod (.var 4) (.bi .len (.var 0)))) (.cst (.int 0)))) ρ1 (3 * d + 2) = .nx ρ2 (3 * d + 2) := exe_set hcl (ne_tr rfl) (Nat.le_of_ble_eq_true rfl)
  let dg : Int := mxI ns / 65536 ^ d % 65536
  let ρ3 : Rho := [some .scr, some .town, some (.d (.int n)), some (.d (.int cl)), some (.d (.int ((d + 2 : Nat) : Int))), some (.d (.int dg)), none, none]
  have s5 : exe g (.set 5 false (.twm 65536)) ρ2 (3 * d + 2) = .nx ρ3 (3 * d + 2) := by
    refine exe_set (x := .int dg) ?_ (ne_tr rfl) (Nat.le_of_ble_eq_true rfl)
    unfold ev
    rw [if_pos (show isTown ρ2 = true from rfl), hg.tw, tw2]
    rfl
  have s6 : exe g (.tkc 65536) ρ3 (3 * d + 2) = .nx ρ3 (3 * d + 3) := by
    unfold exe
    rw [hg.tw, tw2, tw3, if_pos (show (isTown ρ3 && decide ((0:Int) < 65536 ∧ (65536:Int) < 1073741824)) = true from rfl)]
    dsimp only
    rw [if_pos rfl]
  -- the numbers
  have dg0 : 0 ≤ dg ∧ dg < 65536 := ⟨Int.emod_nonneg _ (by decide), Int.emod_lt_of_pos _ (by decide)⟩
  let a1 : Int := (cl + 40503 * dg + 104729 * ((d + 2 : Nat) : Int)) % 4294967291
  let ρ4 : Rho := [some .scr, some .town, some (.d (.int n)), some (.d (.int cl)), some (.d (.int ((d + 2 : Nat) : Int))), some (.d (.int dg)), some (.d (.int a1)), none]
  have s7 : exe g (.set 6 false (.bin .mod (.bin .add (.bin .add (.var 3) (.bin .mul (.cst (.int 40503)) (.var 5))) (.bin .mul (.cst (.int 104729)) (.var 4))) (.cst (.int 4294967291)))) ρ3 (3 * d + 3) = .nx ρ4 (3 * d + 3) :=
    exe_set (ev_bin (ev_bin (ev_bin (ev_varD rfl) (ev_bin ev_cst (ev_varD rfl) (mul_small' (by decide))) add_int) (ev_bin ev_cst (ev_varD rfl) (mul_small' (by decide))) add_int) ev_cst (mod_pos (by decide))) (ne_tr rfl) (Nat.le_of_ble_eq_true rfl)
  have a10 : 0 ≤ a1 ∧ a1 < 4294967291 := ⟨Int.emod_nonneg _ (by decide), Int.emod_lt_of_pos _ (by decide)⟩
  let a2 : Int := a1 * a1 % 4294967279 * 48271 % 4294967291
  let ρ5 : Rho := [some .scr, some .town, some (.d (.int n)), some (.d (.int cl)), some (.d (.int ((d + 2 : Nat) : Int))), some (.d (.int dg)), some (.d (.int a2)), none]
  have s8 : exe g (.set 6 false (.bin .mod (.bin .mul (.bin .mod (.bin .mul (.var 6) (.var 6)) (.cst (.int 4294967279))) (.cst (.int 48271))) (.cst (.int 4294967291)))) ρ4 (3 * d + 3) = .nx ρ5 (3 * d + 3) :=
    exe_set (ev_bin (ev_bin (ev_bin (ev_bin (ev_varD rfl) (ev_varD rfl) (mul_small (small_of a10 (by decide)))) ev_cst (mod_pos (by decide))) ev_cst (mul_small (by decide))) ev_cst (mod_pos (by decide))) (ne_tr rfl) (Nat.le_of_ble_eq_true rfl)
  have a20 : 0 ≤ a2 ∧ a2 < 4294967291 := ⟨Int.emod_nonneg _ (by decide), Int.emod_lt_of_pos _ (by decide)⟩
  let a3 : Int := a2 * a2 % 4294967279 * 69621 % 4294967291
  let ρ6 : Rho := [some .scr, some .town, some (.d (.int n)), some (.d (.int cl)), some (.d (.int ((d + 2 : Nat) : Int))), some (.d (.int dg)), some (.d (.int a2)), some (.d (.int a3))]
  have s9 : exe g (.set 7 false (.bin .mod (.bin .mul (.bin .mod (.bin .mul (.var 6) (.var 6)) (.cst (.int 4294967279))) (.cst (.int 69621))) (.cst (.int 4294967291)))) ρ5 (3 * d + 3) = .nx ρ6 (3 * d + 3) :=
    exe_set (ev_bin (ev_bin (ev_bin (ev_bin (ev_varD rfl) (ev_varD rfl) (mul_small (small_of a20 (by decide)))) ev_cst (mod_pos (by decide))) ev_cst (mul_small (by decide))) ev_cst (mod_pos (by decide))) (ne_tr rfl) (Nat.le_of_ble_eq_true rfl)
  have s10 : exe g (.ret (.bin .mod (.bin .add (.bin .mul (.bin .fdiv (.var 6) (.cst (.int 64))) (.cst (.int 67108864))) (.bin .fdiv (.var 7) (.cst (.int 64)))) (.var 2))) ρ6 (3 * d + 3) = .rt (.int ((a2 / 64 * 67108864 + a3 / 64) % n)) (3 * d + 3) := by
    unfold exe
    rw [ev_bin (ev_bin (ev_bin (ev_bin (ev_varD rfl) ev_cst fdiv_64) ev_cst (mul_small (by decide))) (ev_bin (ev_varD rfl) ev_cst fdiv_64) add_int) (ev_varD rfl) (mod_pos hn)]
    rfl
  refine ⟨(a2 / 64 * 67108864 + a3 / 64) % n, Int.emod_nonneg _ (Int.ne_of_gt hn), Int.emod_lt_of_pos _ hn, ?_⟩
  unfold bDraw
  rw [exes_cons, s1, go_nx, exes_cons, s2, go_nx, exes_cons, s3, go_nx, exes_cons, s4, go_nx, exes_cons, s5, go_nx, exes_cons, s6, go_nx, exes_cons, s7, go_nx, exes_cons, s8, go_nx, exes_cons, s9, go_nx, exes_cons, s10]
  rfl
end Y

namespace Y
open PySem PySem.W PySem.Spec PyProof.Rows L2
/-! ### plain rules -/
def DrawsOk (f : List D → Nat → R (D × Nat)) : Prop := ∀ d, d < 1000000 → ∀ n : Int, 0 < n → ∃ m : Int, 0 ≤ m ∧ m < n ∧ f [.int n] (3 * d) = .ok (.int m, 3 * (d + 1))
def PicksOk (f : List D → Nat → R (D × Nat)) : Prop := ∀ d, d < 1000000 → ∀ l : List D, l ≠ [] → ∃ x ∈ l, f [.list l] (3 * d) = .ok (x, 3 * (d + 1))
theorem draws_ok {ns : List Int} {g : G} (hg : GDraw g ns) (hl : ns.length ≤ 63) : DrawsOk (runT g 1 5 bDraw) := fun d hd n hn => draw_run hg hl hd hn
theorem atI_of {l : List D} {m : Int} (h0 : 0 ≤ m) (h1 : m < l.length) : ∃ x ∈ l, L2.atI l m = some x := by
  refine ⟨l[m.toNat]'(by omega), List.getElem_mem _, ?_⟩
  unfold L2.atI L2.ixN
  rw [if_pos h0, if_pos h1]
  show l[m.toNat]? = _
  rw [List.getElem?_eq_getElem (by omega)]
def bPick : Ss := .cons (.ret (.ix (.var 2) (.callT 0 (.cons (.bi .len (.var 2)) .nil)))) .nil
theorem picks_ok {g : G} (h : DrawsOk (g.fnT 0)) : PicksOk (runT g 1 0 bPick) := fun d hd l hl => by
  have hp : 0 < (l.length : Int) := by
    have := List.length_pos_iff.mpr hl
    omega
  obtain ⟨m, m0, m1, e⟩ := h d hd l.length hp
  obtain ⟨x, hx, ex⟩ := atI_of m0 m1
  refine ⟨x, hx, ?_⟩
  unfold runT
  rw [if_pos (show [PyData.list l].length = 1 from rfl)]
  have e1 : ev g (.callT 0 (.cons (.bi .len (.var 2)) .nil)) [some .scr, some .town, some (.d (.list l))] (3 * d) = .ok (.int m, 3 * (d + 1)) := by
    show (if (anyTr _ _ || !lawIn _) = true then R.no else _) = _
    rw [if_neg (show ¬ (anyTr [some .scr, some .town, some (.d (.list l))] (.cons (.bi .len (.var 2)) .nil) || !lawIn [some .scr, some .town, some (.d (.list l))]) = true from by rw [show (anyTr [some .scr, some .town, some (.d (.list l))] (.cons (.bi .len (.var 2)) .nil) || !lawIn [some .scr, some .town, some (.d (.list l))]) = false from rfl]; decide)]
    exact e
  have e2 : exe g (.ret (.ix (.var 2) (.callT 0 (.cons (.bi .len (.var 2)) .nil)))) [some .scr, some .town, some (.d (.list l))] (3 * d) = .rt x (3 * (d + 1)) := by
    unfold exe ev
    rw [ev_varD (x := .list l) rfl, bind_ok]
    dsimp only
    rw [e1, bind_ok]
    dsimp only
    unfold ixD
    dsimp only
    rw [ex]
    rfl
  show fin (exes g bPick [some .scr, some .town, some (.d (.list l))] (3 * d)) = _
  unfold bPick
  rw [exes_cons, e2]
  rfl
/-- a for whose turns all go on -/
theorem forL_inv {bnd : D → Rho → Option Rho} {body : Rho → Nat → Out} {l : List D} (Iv : Nat → Rho → Nat → Prop) (step : ∀ i x ρ k, l[i]? = some x → Iv i ρ k → ∃ ρ1, bnd x ρ = some ρ1 ∧ ∃ ρ2 k2, (body ρ1 k = .nx ρ2 k2 ∨ body ρ1 k = .ct ρ2 k2) ∧ Iv (i + 1) ρ2 k2) :
    ∀ {ρ : Rho} {k : Nat}, Iv 0 ρ k → ∃ ρ' k', forL bnd body l ρ k = .nx ρ' k' ∧ Iv l.length ρ' k' := by
  suffices h : ∀ (m : List D) (i : Nat) (ρ : Rho) (k : Nat), l.drop i = m → i + m.length = l.length → Iv i ρ k → ∃ ρ' k', forL bnd body m ρ k = .nx ρ' k' ∧ Iv l.length ρ' k' from fun {ρ k} h0 => h l 0 ρ k rfl (by omega) h0
  intro m
  induction m with
  | nil =>
    intro i ρ k _ hi h
    have e : i = l.length := by simpa using hi
    subst e
    exact ⟨ρ, k, rfl, h⟩
  | cons x m ih =>
    intro i ρ k hm hi h
    have hx : l[i]? = some x := by
      have : (l.drop i)[0]? = some x := by rw [hm]; rfl
      rw [List.getElem?_drop] at this
      simpa using this
    obtain ⟨ρ1, e1, ρ2, k2, e2, h2⟩ := step i x ρ k hx h
    have hm2 : l.drop (i + 1) = m := by
      rw [← List.drop_drop, hm]
      rfl
    obtain ⟨ρ', k', e3, h3⟩ := ih (i + 1) ρ2 k2 hm2 (by simp at hi; omega) h2
    refine ⟨ρ', k', ?_, h3⟩
    unfold forL
    rw [e1]
    dsimp only
    rcases e2 with e2 | e2
    · rw [e2]; exact e3
    · rw [e2]; exact e3
end Y

namespace Y
open PySem PySem.W PySem.Spec PyProof.Rows L2
/-! ### flows -/
structure Mv where
  word : Str
  beg : Str
  goal : Str
  roles : List Str
structure Flow where
  states : List (Str × Str)
  moves : List Mv
def strsD (l : List Str) : List D := l.map .str
def pairD (q : Str × Str) : D := .tuple [.str q.1, .str q.2]
def mvD (m : Mv) : D := .tuple [.str m.word, .str m.beg, .str m.goal, .tuple (strsD m.roles)]
def flD (f : Flow) : D := .tuple [.tuple (f.states.map pairD), .tuple (f.moves.map mvD)]
def six : List Str := ["new", "ready", "doing", "review", "closed", "void"]
def roles3 : List Str := ["boss", "dev", "guest"]
def words4 : List Str := ["go", "back", "end", "skip"]
structure FlowOk (f : Flow) : Prop where
  nd : (f.states.map (·.1)).Nodup
  ne : f.states ≠ []
  few : f.states.length ≤ 6
  nm : ∀ s ∈ f.states, s.1 ∈ six
  mv : ∀ m ∈ f.moves, m.beg ∈ f.states.map (·.1) ∧ m.goal ∈ f.states.map (·.1) ∧ m.word ∈ words4 ∧ m.roles ≠ [] ∧ (∀ r ∈ m.roles, r ∈ roles3) ∧ m.roles.length ≤ 3
  once : (f.moves.map fun m => (m.word, m.beg)).Nodup
  mfew : f.moves.length ≤ 18
/-! equality of texts, pairs -/
theorem eqv_str {a b : Str} : PyData.eqv (.str a) (.str b) = decide (a = b) := by
  letI : TownS := ⟨fun _ => [], .none⟩
  have := kD_inj (a := .inr a) (b := .inr b)
  rw [show kD (.inr a) = .str a from rfl, show kD (.inr b) = .str b from rfl] at this
  rw [this]
  by_cases h : a = b
  · rw [decide_eq_true h, decide_eq_true (by rw [h])]
  · rw [decide_eq_false h, decide_eq_false fun z => h (Sum.inr.inj z)]
theorem eqv_pair {a b : Str × Str} : PyData.eqv (pairD a) (pairD b) = decide (a = b) := by
  obtain ⟨a1, a2⟩ := a
  obtain ⟨b1, b2⟩ := b
  unfold pairD
  rw [PyData.eqv, PyData.eqvAll, PyData.eqvAll, PyData.eqvAll, eqv_str, eqv_str]
  by_cases h1 : a1 = b1 <;> by_cases h2 : a2 = b2 <;> simp [h1, h2]
theorem dOk_str {a : Str} : dOk (.str a) = true := by
  simp [dOk, noD, PyData.depth]
theorem dOk_pair {a : Str × Str} : dOk (pairD a) = true := by
  unfold dOk pairD
  simp only [noD, noDs, PyData.depth, PyData.depthAll]
  rfl
theorem noDs_of {l : List D} (h : ∀ x ∈ l, noD x = true) : noDs l = true := by
  induction l with
  | nil => rfl
  | cons x l ih =>
    rw [noDs, h x (List.mem_cons_self ..), ih fun y hy => h y (List.mem_cons_of_mem _ hy)]
    rfl
theorem depthAll_of {l : List D} {n : Nat} (h : ∀ x ∈ l, x.depth ≤ n) : PyData.depthAll l ≤ n := by
  induction l with
  | nil => rw [PyData.depthAll]; exact Nat.zero_le _
  | cons x l ih =>
    rw [PyData.depthAll]
    exact Nat.max_le.mpr ⟨h x (List.mem_cons_self ..), ih fun y hy => h y (List.mem_cons_of_mem _ hy)⟩
theorem dOk_list {l : List D} {n : Nat} (h1 : ∀ x ∈ l, noD x = true) (h2 : ∀ x ∈ l, x.depth ≤ n) (hn : n ≤ 63) : dOk (.list l) = true ∧ dOk (.tuple l) = true := by
  have a := noDs_of h1
  have b := depthAll_of h2
  unfold dOk
  rw [noD, noD, PyData.depth, PyData.depth, a]
  constructor
  · exact decide_eq_true (by omega)
  · exact decide_eq_true (by omega)
theorem dOk_parts {x : D} (h : dOk x = true) : noD x = true ∧ x.depth ≤ 64 := by
  unfold dOk at h
  rw [Bool.and_eq_true] at h
  exact ⟨h.1, of_decide_eq_true h.2⟩
theorem any_mem {α : Type} [DecidableEq α] {f : α → D} (hf : ∀ a b, PyData.eqv (f a) (f b) = decide (a = b)) {l : List α} {x : α} : ((l.map f).any fun z => PyData.eqv z (f x)) = decide (x ∈ l) := by
  induction l with
  | nil => rfl
  | cons y l ih =>
    rw [List.map_cons, List.any_cons, ih, hf]
    by_cases h : y = x
    · subst h
      simp
    · have h' : ¬ x = y := fun e => h e.symm
      by_cases h2 : x ∈ l <;> simp [h, h', h2]
theorem in_strs {l : List Str} {x : Str} : inD (.str x) (.list (strsD l)) = some (decide (x ∈ l)) ∧ inD (.str x) (.tuple (strsD l)) = some (decide (x ∈ l)) := by
  have h := dOk_list (l := strsD l) (n := 0) (fun y hy => by
    obtain ⟨z, _, e⟩ := List.mem_map.mp hy
    rw [← e]; rfl) (fun y hy => by
    obtain ⟨z, _, e⟩ := List.mem_map.mp hy
    rw [← e, PyData.depth]; exact Nat.le_refl _) (by decide)
  unfold inD
  dsimp only
  rw [dOk_str, h.1, h.2]
  simp only [Bool.and_self, if_true]
  unfold strsD
  rw [any_mem (f := PyData.str) fun a b => eqv_str]
  exact ⟨rfl, rfl⟩
theorem in_pairs {l : List (Str × Str)} {x : Str × Str} : inD (pairD x) (.list (l.map pairD)) = some (decide (x ∈ l)) := by
  have h := dOk_list (l := l.map pairD) (n := 1) (fun y hy => by
    obtain ⟨z, _, e⟩ := List.mem_map.mp hy
    rw [← e]; exact (dOk_parts dOk_pair).1) (fun y hy => by
    obtain ⟨z, _, e⟩ := List.mem_map.mp hy
    rw [← e]
    unfold pairD
    simp only [PyData.depth, PyData.depthAll]
    decide) (by decide)
  unfold inD
  dsimp only
  rw [dOk_pair, h.1]
  simp only [Bool.and_self, if_true]
  rw [any_mem (f := pairD) fun a b => eqv_pair]
  congr
end Y

namespace Y
open PySem PySem.W PySem.Spec PyProof.Rows L2
/-! ### stepping -/
theorem forL_nx {bnd : D → Rho → Option Rho} {body : Rho → Nat → Out} {x : D} {l : List D} {ρ ρ1 ρ2 : Rho} {k k2 : Nat} {o : Out} (h1 : bnd x ρ = some ρ1) (h2 : body ρ1 k = .nx ρ2 k2) (h3 : forL bnd body l ρ2 k2 = o) : forL bnd body (x :: l) ρ k = o := by
  unfold forL
  rw [h1]
  dsimp only
  rw [h2]
  exact h3
theorem compL_t {bnd : D → Option Rho} {t : Rho → Nat → R (Bool × Nat)} {elt : Rho → Nat → R (D × Nat)} {x y : D} {l r : List D} {ρ : Rho} {k k1 k2 k3 : Nat} (h1 : bnd x = some ρ) (h2 : t ρ k = .ok (true, k1)) (h3 : elt ρ k1 = .ok (y, k2)) (h4 : compL bnd t elt l k2 = .ok (r, k3)) : compL bnd t elt (x :: l) k = .ok (y :: r, k3) := by
  unfold compL
  rw [h1]
  dsimp only
  rw [h2, bind_ok]
  dsimp only
  rw [if_pos rfl, h3, bind_ok]
  dsimp only
  rw [h4, bind_ok]
  rfl
theorem compL_f {bnd : D → Option Rho} {t : Rho → Nat → R (Bool × Nat)} {elt : Rho → Nat → R (D × Nat)} {x : D} {l : List D} {ρ : Rho} {k k1 : Nat} {o : R (List D × Nat)} (h1 : bnd x = some ρ) (h2 : t ρ k = .ok (false, k1)) (h4 : compL bnd t elt l k1 = o) : compL bnd t elt (x :: l) k = o := by
  unfold compL
  rw [h1]
  dsimp only
  rw [h2, bind_ok]
  exact h4
theorem eqD_int {a b : Int} : cmpD .Eq (.int a) (.int b) = some (decide (a = b)) := by
  have h : ∀ i : Int, dOk (.int i) = true := fun i => by simp [dOk, noD, PyData.depth]
  show eqD _ _ = _
  unfold eqD
  rw [h, h]
  letI : TownS := ⟨fun _ => [], .none⟩
  have := kD_inj (a := .inl a) (b := .inl b)
  rw [show kD (.inl a) = .int a from rfl, show kD (.inl b) = .int b from rfl] at this
  rw [this]
  by_cases h : a = b
  · subst h; simp
  · have h' : ¬ (Sum.inl a : Int ⊕ Str) = .inl b := fun z => h (Sum.inl.inj z)
    simp [h]
def takeSix (n : Nat) : List Str := six.take n
theorem sl_six {m : Int} (h0 : 0 ≤ m) (h1 : m < 6) : ∃ n : Nat, 1 ≤ n ∧ n ≤ 6 ∧ slD (.list [.str "new", .str "ready", .str "doing", .str "review", .str "closed", .str "void"]) none (some (1 + m)) = some (.list (strsD (takeSix n))) := by
  obtain ⟨j, rfl⟩ := Int.eq_ofNat_of_zero_le h0
  have hj : j < 6 := by omega
  refine ⟨j + 1, by omega, by omega, ?_⟩
  have : j = 0 ∨ j = 1 ∨ j = 2 ∨ j = 3 ∨ j = 4 ∨ j = 5 := by omega
  rcases this with h | h | h | h | h | h <;> subst h <;> rfl
theorem pick_strs {f : List D → Nat → R (D × Nat)} (h : PicksOk f) {d : Nat} (hd : d < 1000000) {l : List Str} (hl : l ≠ []) : ∃ s ∈ l, f [.list (strsD l)] (3 * d) = .ok (.str s, 3 * (d + 1)) := by
  obtain ⟨x, hx, e⟩ := h d hd (strsD l) (by unfold strsD; simpa using hl)
  obtain ⟨s, hs, rfl⟩ := List.mem_map.mp hx
  exact ⟨s, hs, e⟩
/-! the states' loop -/
def bStates : Ss := .cons (.app 3 (.tup (.cons (.var 4) (.cons (.callT 1 (.cons (.lst (.cons (.cst (.str "open")) (.cons (.cst (.str "doing")) (.cons (.cst (.str "done")) (.cons (.cst (.str "done")) .nil))))) .nil)) .nil)))) .nil
theorem states_loop {g : G} (hp : PicksOk (g.fnT 1)) {nm : D} : ∀ (rest : List Str) (sts : List (Str × Str)) (x4 : Option SV) (d : Nat), d + rest.length < 1000 → sts.length + rest.length ≤ 6 → (∀ l, x4 ≠ some (.own l)) → (∀ t l, x4 ≠ some (.ownd t l)) →
    ∃ (sts' : List (Str × Str)) (x4' : Option SV), forL (bindT (.nm 4)) (exes g bStates) (strsD rest) [some .scr, some .town, some (.d nm), some (.own (sts.map pairD)), x4, none, none, none, none, none, none, none] (3 * d) = .nx [some .scr, some .town, some (.d nm), some (.own (sts'.map pairD)), x4', none, none, none, none, none, none, none] (3 * (d + rest.length)) ∧ sts'.map (·.1) = sts.map (·.1) ++ rest ∧ sts'.length = sts.length + rest.length
  | [], sts, x4, d, _, _, _, _ => ⟨sts, x4, rfl, by simp, by simp⟩
  | a :: rest, sts, x4, d, h1, h2, _, _ => by
    rw [List.length_cons] at h1 h2
    obtain ⟨s, hs, e⟩ := pick_strs hp (d := d) (by omega) (l := ["open", "doing", "done", "done"]) (by simp)
    simp only [strsD, List.map] at e
    obtain ⟨sts', x4', e1, e2, e3⟩ := states_loop hp rest (sts ++ [(a, s)]) (some (.d (.str a))) (d + 1) (by omega) (by simp; omega) (by simp) (by simp)
    refine ⟨sts', x4', ?_, by rw [e2]; simp, by rw [e3]; simp; omega⟩
    have hz : lim ((sts.map pairD).length + 1) = true := by
      unfold lim
      rw [List.length_map]
      exact decide_eq_true (by omega)
    have e4 : List.map pairD sts ++ [PyData.tuple [PyData.str a, PyData.str s]] = (sts ++ [(a, s)]).map pairD := by simp [pairD]
    rw [show d + (a :: rest).length = d + 1 + rest.length from by rw [List.length_cons]; omega]
    refine forL_nx rfl ?_ e1
    simp only [exes, exe, ev, evs, evi, go_ok, go_nx, bind_ok, pure_ok, of_some, at_ok, List.getElem?_cons_succ, List.getElem?_cons_zero, List.set_cons_succ, List.set_cons_zero, putS, setSV, kdOf, anyTr, lawIn, isTr, trI, List.length_cons, List.length_nil, wipeOk, List.all_cons, List.all_nil, wipeR, bindT, bindTs, Option.bind_some, isOmit, endOf, intOf, getL, getT, getK, getR, parOk, parS, ne_eq, not_false_eq_true, reduceCtorEq, decide_false, decide_true, Bool.or_false, Bool.false_or, Bool.or_true, Bool.true_or, Bool.and_true, Bool.true_and, Bool.not_true, Bool.not_false, Bool.false_eq_true, if_true, if_false, ite_true, ite_false, if_pos, Nat.reduceLT, Nat.reduceAdd, ↓reduceIte, tst, truD, Bool.and_self, Bool.and_false, Bool.false_and, Nat.lt_add_one, Nat.zero_lt_succ, Nat.lt_irrefl, bStates, e, hz, e4]
/-! the roles that are drawn -/
def bRole : E := .cmp .Eq (.callT 0 (.cons (.cst (.int 2)) .nil)) (.cst (.int 0))
theorem roles_drawn {g : G} (hp : DrawsOk (g.fnT 0)) {x2 x3 x4 x5 x6 x7 x8 x9 x10 x11 : Option SV} : ∀ (l : List Str) (d : Nat), d + l.length < 1000 →
    ∃ part : List Str, compL (fun x => bindT (.nm 11) x [some .scr, some .town, x2, x3, x4, x5, x6, x7, x8, x9, x10, x11]) (fun ρ k => tstR (ev g bRole ρ k)) (fun ρ k => if kdOf ρ (.var 11) = .tr then R.no else (ev g (.var 11) ρ k).nox) (strsD l) (3 * d) = .ok (strsD part, 3 * (d + l.length)) ∧ (∀ r ∈ part, r ∈ l) ∧ part.length ≤ l.length
  | [], d, _ => ⟨[], rfl, by simp, by simp⟩
  | a :: l, d, h => by
    rw [List.length_cons] at h
    obtain ⟨m, m0, m1, e⟩ := hp d (by omega) 2 (by decide)
    obtain ⟨part, e1, e2, e3⟩ := roles_drawn hp (x2 := x2) (x3 := x3) (x4 := x4) (x5 := x5) (x6 := x6) (x7 := x7) (x8 := x8) (x9 := x9) (x10 := x10) (x11 := x11) l (d + 1) (by omega)
    have ek : d + (a :: l).length = d + 1 + l.length := by rw [List.length_cons]; omega
    by_cases hm : m = 0
    · refine ⟨a :: part, ?_, ?_, by simp; omega⟩
      · rw [ek]
        refine compL_t (k1 := 3 * (d + 1)) rfl ?_ ?_ e1
        · simp only [exes, exe, ev, evs, evi, go_ok, go_nx, bind_ok, pure_ok, of_some, at_ok, List.getElem?_cons_succ, List.getElem?_cons_zero, List.set_cons_succ, List.set_cons_zero, putS, setSV, kdOf, anyTr, lawIn, isTr, trI, List.length_cons, List.length_nil, wipeOk, List.all_cons, List.all_nil, wipeR, bindT, bindTs, Option.bind_some, isOmit, endOf, intOf, getL, getT, getK, getR, parOk, parS, ne_eq, not_false_eq_true, reduceCtorEq, decide_false, decide_true, Bool.or_false, Bool.false_or, Bool.or_true, Bool.true_or, Bool.and_true, Bool.true_and, Bool.not_true, Bool.not_false, Bool.false_eq_true, if_true, if_false, ite_true, ite_false, if_pos, Nat.reduceLT, Nat.reduceAdd, ↓reduceIte, tst, truD, Bool.and_self, Bool.and_false, Bool.false_and, Nat.lt_add_one, Nat.zero_lt_succ, Nat.lt_irrefl, bRole, e, eqD_int, tstR, R.nox, hm]
        · simp only [exes, exe, ev, evs, evi, go_ok, go_nx, bind_ok, pure_ok, of_some, at_ok, List.getElem?_cons_succ, List.getElem?_cons_zero, List.set_cons_succ, List.set_cons_zero, putS, setSV, kdOf, anyTr, lawIn, isTr, trI, List.length_cons, List.length_nil, wipeOk, List.all_cons, List.all_nil, wipeR, bindT, bindTs, Option.bind_some, isOmit, endOf, intOf, getL, getT, getK, getR, parOk, parS, ne_eq, not_false_eq_true, reduceCtorEq, decide_false, decide_true, Bool.or_false, Bool.false_or, Bool.or_true, Bool.true_or, Bool.and_true, Bool.true_and, Bool.not_true, Bool.not_false, Bool.false_eq_true, if_true, if_false, ite_true, ite_false, if_pos, Nat.reduceLT, Nat.reduceAdd, ↓reduceIte, tst, truD, Bool.and_self, Bool.and_false, Bool.false_and, Nat.lt_add_one, Nat.zero_lt_succ, Nat.lt_irrefl, R.nox]
      · intro r hr
        rcases List.mem_cons.mp hr with h | h
        · rw [h]; exact List.mem_cons_self ..
        · exact List.mem_cons_of_mem _ (e2 r h)
    · refine ⟨part, ?_, fun r hr => List.mem_cons_of_mem _ (e2 r hr), by simp; omega⟩
      rw [ek]
      refine compL_f rfl ?_ e1
      simp only [exes, exe, ev, evs, evi, go_ok, go_nx, bind_ok, pure_ok, of_some, at_ok, List.getElem?_cons_succ, List.getElem?_cons_zero, List.set_cons_succ, List.set_cons_zero, putS, setSV, kdOf, anyTr, lawIn, isTr, trI, List.length_cons, List.length_nil, wipeOk, List.all_cons, List.all_nil, wipeR, bindT, bindTs, Option.bind_some, isOmit, endOf, intOf, getL, getT, getK, getR, parOk, parS, ne_eq, not_false_eq_true, reduceCtorEq, decide_false, decide_true, Bool.or_false, Bool.false_or, Bool.or_true, Bool.true_or, Bool.and_true, Bool.true_and, Bool.not_true, Bool.not_false, Bool.false_eq_true, if_true, if_false, ite_true, ite_false, if_pos, Nat.reduceLT, Nat.reduceAdd, ↓reduceIte, tst, truD, Bool.and_self, Bool.and_false, Bool.false_and, Nat.lt_add_one, Nat.zero_lt_succ, Nat.lt_irrefl, bRole, e, eqD_int, tstR, R.nox, hm]
end Y

namespace Y
open PySem PySem.W PySem.Spec PyProof.Rows L2
/-! ### the moves' loop -/
def wb (m : Mv) : Str × Str := (m.word, m.beg)
structure MvOk (names : List Str) (m : Mv) : Prop where
  beg : m.beg ∈ names
  goal : m.goal ∈ names
  word : m.word ∈ words4
  some : m.roles ≠ []
  role : ∀ r ∈ m.roles, r ∈ roles3
  few : m.roles.length ≤ 3
structure MvsOk (names : List Str) (mvs : List Mv) : Prop where
  each : ∀ m ∈ mvs, MvOk names m
  once : (mvs.map wb).Nodup
theorem strsD_nil : strsD [] = [] := rfl
theorem strsD_cons {a : Str} {l : List Str} : strsD (a :: l) = .str a :: strsD l := rfl
theorem notIn_pairs {l : List (Str × Str)} {a b : Str} : cmpD .NotIn (.tuple [.str a, .str b]) (.list (l.map pairD)) = some (!decide ((a, b) ∈ l)) := by
  show (inD _ _).map _ = _
  rw [show inD (.tuple [.str a, .str b]) (.list (l.map pairD)) = _ from in_pairs (l := l) (x := (a, b))]
  rfl
def bRoles : E := .comp [11] (.nm 11) (.tup (.tup (.cons (.cst (.str "boss")) (.cons (.cst (.str "dev")) (.cons (.cst (.str "guest")) .nil))))) bRole (.var 11)
def bNew : Ss := .cons (.app 6 (.tup (.cons (.var 8) (.cons (.var 9) .nil)))) (.cons (.app 5 (.tup (.cons (.var 8) (.cons (.var 9) (.cons (.callT 1 (.cons (.var 2) .nil)) (.cons (.bi .tuple (.bop true (.var 10) (.lst (.cons (.cst (.str "dev")) .nil)))) .nil)))))) .nil)
def bTurn : Ss := .cons (.par [(8, false), (9, false)] (.cons (.callT 1 (.cons (.lst (.cons (.cst (.str "go")) (.cons (.cst (.str "back")) (.cons (.cst (.str "end")) (.cons (.cst (.str "skip")) .nil))))) .nil)) (.cons (.callT 1 (.cons (.var 2) .nil)) .nil)))
      (.cons (.set 10 false bRoles)
      (.cons (.iff (.cmp .NotIn (.tup (.cons (.var 8) (.cons (.var 9) .nil))) (.var 6)) bNew .nil)
      .nil))
theorem roles_ev {g : G} (hp : DrawsOk (g.fnT 0)) {x2 x3 x4 x5 x6 x7 x8 x9 x10 : Option SV} {d : Nat} (h : d + 3 < 1000) : ∃ part : List Str, ev g bRoles [some .scr, some .town, x2, x3, x4, x5, x6, x7, x8, x9, x10, none] (3 * d) = .ok (.list (strsD part), 3 * (d + 3)) ∧ (∀ r ∈ part, r ∈ roles3) ∧ part.length ≤ 3 := by
  obtain ⟨part, e1, e2, e3⟩ := roles_drawn hp (x2 := x2) (x3 := x3) (x4 := x4) (x5 := x5) (x6 := x6) (x7 := x7) (x8 := x8) (x9 := x9) (x10 := x10) (x11 := none) roles3 d h
  refine ⟨part, ?_, e2, e3⟩
  have e4 : evi g (.tup (.tup (.cons (.cst (.str "boss")) (.cons (.cst (.str "dev")) (.cons (.cst (.str "guest")) .nil))))) [some .scr, some .town, x2, x3, x4, x5, x6, x7, x8, x9, x10, none] (3 * d) = .ok (strsD roles3, 3 * d) := rfl
  unfold bRoles ev
  rw [show wipeOk [some .scr, some .town, x2, x3, x4, x5, x6, x7, x8, x9, x10, none] [11] = true from rfl, e4, bind_ok]
  dsimp only
  rw [show wipeR [some .scr, some .town, x2, x3, x4, x5, x6, x7, x8, x9, x10, none] [11] = [some .scr, some .town, x2, x3, x4, x5, x6, x7, x8, x9, x10, none] from rfl, e1, bind_ok]
  rfl
theorem new_ev {g : G} (hp : PicksOk (g.fnT 1)) {names part : List Str} {mvs : List Mv} {x3 x4 x7 : Option SV} {d : Nat} {w b : Str} (hd : d < 1000) (hn : names ≠ []) (hm : mvs.length ≤ 1000) (h2 : ∀ r ∈ part, r ∈ roles3) (h3 : part.length ≤ 3) :
    ∃ (goal : Str) (rs : List Str), goal ∈ names ∧ rs ≠ [] ∧ (∀ r ∈ rs, r ∈ roles3) ∧ rs.length ≤ 3 ∧
    exes g bNew [some .scr, some .town, some (.d (.list (strsD names))), x3, x4, some (.own (mvs.map mvD)), some (.own ((mvs.map wb).map pairD)), x7, some (.d (.str w)), some (.d (.str b)), some (.d (.list (strsD part))), none] (3 * d)
     = .nx [some .scr, some .town, some (.d (.list (strsD names))), x3, x4, some (.own ((mvs ++ [Mv.mk w b goal rs]).map mvD)), some (.own (((mvs ++ [Mv.mk w b goal rs]).map wb).map pairD)), x7, some (.d (.str w)), some (.d (.str b)), some (.d (.list (strsD part))), none] (3 * (d + 1)) := by
  obtain ⟨goal, hg, e⟩ := pick_strs hp (d := d) (by omega) hn
  have hz1 : lim ((mvs.map mvD).length + 1) = true := by
    unfold lim
    rw [List.length_map]
    exact decide_eq_true (by omega)
  have hz2 : lim (((mvs.map wb).map pairD).length + 1) = true := by
    unfold lim
    rw [List.length_map, List.length_map]
    exact decide_eq_true (by omega)
  have b1 : biD .tuple (.list [.str "dev"]) = some (.tuple [.str "dev"]) := rfl
  have b2 : ∀ l, biD .tuple (.list l) = some (.tuple l) := fun l => rfl
  cases part with
  | nil =>
    refine ⟨goal, ["dev"], hg, by simp, by decide, by decide, ?_⟩
    simp only [exes, exe, ev, evs, evi, go_ok, go_nx, bind_ok, pure_ok, of_some, at_ok, List.getElem?_cons_succ, List.getElem?_cons_zero, List.set_cons_succ, List.set_cons_zero, putS, setSV, kdOf, anyTr, lawIn, isTr, trI, List.length_cons, List.length_nil, wipeOk, List.all_cons, List.all_nil, wipeR, bindT, bindTs, Option.bind_some, isOmit, endOf, intOf, getL, getT, getK, getR, parOk, parS, ne_eq, not_false_eq_true, reduceCtorEq, decide_false, decide_true, Bool.or_false, Bool.false_or, Bool.or_true, Bool.true_or, Bool.and_true, Bool.true_and, Bool.not_true, Bool.not_false, Bool.false_eq_true, if_true, if_false, ite_true, ite_false, if_pos, Nat.reduceLT, Nat.reduceAdd, ↓reduceIte, tst, truD, Bool.and_self, Bool.and_false, Bool.false_and, Nat.lt_add_one, Nat.zero_lt_succ, Nat.lt_irrefl, bNew, e, hz1, hz2, b1, b2, strsD_nil, List.isEmpty_nil]
    simp [mvD, wb, pairD, strsD]
  | cons p part =>
    refine ⟨goal, p :: part, hg, by simp, h2, h3, ?_⟩
    simp only [exes, exe, ev, evs, evi, go_ok, go_nx, bind_ok, pure_ok, of_some, at_ok, List.getElem?_cons_succ, List.getElem?_cons_zero, List.set_cons_succ, List.set_cons_zero, putS, setSV, kdOf, anyTr, lawIn, isTr, trI, List.length_cons, List.length_nil, wipeOk, List.all_cons, List.all_nil, wipeR, bindT, bindTs, Option.bind_some, isOmit, endOf, intOf, getL, getT, getK, getR, parOk, parS, ne_eq, not_false_eq_true, reduceCtorEq, decide_false, decide_true, Bool.or_false, Bool.false_or, Bool.or_true, Bool.true_or, Bool.and_true, Bool.true_and, Bool.not_true, Bool.not_false, Bool.false_eq_true, if_true, if_false, ite_true, ite_false, if_pos, Nat.reduceLT, Nat.reduceAdd, ↓reduceIte, tst, truD, Bool.and_self, Bool.and_false, Bool.false_and, Nat.lt_add_one, Nat.zero_lt_succ, Nat.lt_irrefl, bNew, e, hz1, hz2, b1, b2, strsD_cons, List.isEmpty_cons]
    simp [mvD, wb, pairD, strsD]
theorem turn_ev {g : G} (hp : PicksOk (g.fnT 1)) (hd0 : DrawsOk (g.fnT 0)) {names : List Str} {mvs : List Mv} {x3 x4 x7 x8 x9 x10 : Option SV} {d : Nat} (hd : d + 6 < 1000) (hn : names ≠ []) (hm : mvs.length ≤ 1000) (ho : MvsOk names mvs) :
    ∃ (mvs' : List Mv) (x8' x9' x10' : Option SV) (d' : Nat), MvsOk names mvs' ∧ d' ≤ d + 6 ∧ mvs'.length ≤ mvs.length + 1 ∧
    exes g bTurn [some .scr, some .town, some (.d (.list (strsD names))), x3, x4, some (.own (mvs.map mvD)), some (.own ((mvs.map wb).map pairD)), x7, x8, x9, x10, none] (3 * d)
     = .nx [some .scr, some .town, some (.d (.list (strsD names))), x3, x4, some (.own (mvs'.map mvD)), some (.own ((mvs'.map wb).map pairD)), x7, x8', x9', x10', none] (3 * d') := by
  obtain ⟨w, hw, e1⟩ := pick_strs hp (d := d) (by omega) (l := words4) (by simp [words4])
  simp only [strsD, List.map, words4] at e1
  obtain ⟨b, hb, e2⟩ := pick_strs hp (d := d + 1) (by omega) hn
  obtain ⟨part, e3, p1, p2⟩ := roles_ev hd0 (x2 := some (.d (.list (strsD names)))) (x3 := x3) (x4 := x4) (x5 := some (.own (mvs.map mvD))) (x6 := some (.own ((mvs.map wb).map pairD))) (x7 := x7) (x8 := some (.d (.str w))) (x9 := some (.d (.str b))) (x10 := x10) (d := d + 1 + 1) (by omega)
  have s1 : exe g (.par [(8, false), (9, false)] (.cons (.callT 1 (.cons (.lst (.cons (.cst (.str "go")) (.cons (.cst (.str "back")) (.cons (.cst (.str "end")) (.cons (.cst (.str "skip")) .nil))))) .nil)) (.cons (.callT 1 (.cons (.var 2) .nil)) .nil))) [some .scr, some .town, some (.d (.list (strsD names))), x3, x4, some (.own (mvs.map mvD)), some (.own ((mvs.map wb).map pairD)), x7, x8, x9, x10, none] (3 * d) = .nx [some .scr, some .town, some (.d (.list (strsD names))), x3, x4, some (.own (mvs.map mvD)), some (.own ((mvs.map wb).map pairD)), x7, some (.d (.str w)), some (.d (.str b)), x10, none] (3 * (d + 1 + 1)) := by
    simp only [exes, exe, ev, evs, evi, go_ok, go_nx, bind_ok, pure_ok, of_some, at_ok, List.getElem?_cons_succ, List.getElem?_cons_zero, List.set_cons_succ, List.set_cons_zero, putS, setSV, kdOf, anyTr, lawIn, isTr, trI, List.length_cons, List.length_nil, wipeOk, List.all_cons, List.all_nil, wipeR, bindT, bindTs, Option.bind_some, isOmit, endOf, intOf, getL, getT, getK, getR, parOk, parS, ne_eq, not_false_eq_true, reduceCtorEq, decide_false, decide_true, Bool.or_false, Bool.false_or, Bool.or_true, Bool.true_or, Bool.and_true, Bool.true_and, Bool.not_true, Bool.not_false, Bool.false_eq_true, if_true, if_false, ite_true, ite_false, if_pos, Nat.reduceLT, Nat.reduceAdd, ↓reduceIte, tst, truD, Bool.and_self, Bool.and_false, Bool.false_and, Nat.lt_add_one, Nat.zero_lt_succ, Nat.lt_irrefl, e1, e2]
  have s2 : exe g (.set 10 false bRoles) [some .scr, some .town, some (.d (.list (strsD names))), x3, x4, some (.own (mvs.map mvD)), some (.own ((mvs.map wb).map pairD)), x7, some (.d (.str w)), some (.d (.str b)), x10, none] (3 * (d + 1 + 1)) = .nx [some .scr, some .town, some (.d (.list (strsD names))), x3, x4, some (.own (mvs.map mvD)), some (.own ((mvs.map wb).map pairD)), x7, some (.d (.str w)), some (.d (.str b)), some (.d (.list (strsD part))), none] (3 * (d + 1 + 1 + 3)) :=
    exe_set e3 (by unfold bRoles kdOf; decide) (Nat.le_of_ble_eq_true rfl)
  unfold bTurn
  rw [exes_cons, s1, go_nx, exes_cons, s2, go_nx]
  by_cases hin : (w, b) ∈ mvs.map wb
  · refine ⟨mvs, some (.d (.str w)), some (.d (.str b)), some (.d (.list (strsD part))), d + 1 + 1 + 3, ho, by omega, by omega, ?_⟩
    simp only [exes, exe, ev, evs, evi, go_ok, go_nx, bind_ok, pure_ok, of_some, at_ok, List.getElem?_cons_succ, List.getElem?_cons_zero, List.set_cons_succ, List.set_cons_zero, putS, setSV, kdOf, anyTr, lawIn, isTr, trI, List.length_cons, List.length_nil, wipeOk, List.all_cons, List.all_nil, wipeR, bindT, bindTs, Option.bind_some, isOmit, endOf, intOf, getL, getT, getK, getR, parOk, parS, ne_eq, not_false_eq_true, reduceCtorEq, decide_false, decide_true, Bool.or_false, Bool.false_or, Bool.or_true, Bool.true_or, Bool.and_true, Bool.true_and, Bool.not_true, Bool.not_false, Bool.false_eq_true, if_true, if_false, ite_true, ite_false, if_pos, Nat.reduceLT, Nat.reduceAdd, ↓reduceIte, tst, truD, Bool.and_self, Bool.and_false, Bool.false_and, Nat.lt_add_one, Nat.zero_lt_succ, Nat.lt_irrefl, notIn_pairs, hin]
  · obtain ⟨goal, rs, n1, n2, n3, n4, n5⟩ := new_ev hp (names := names) (part := part) (mvs := mvs) (x3 := x3) (x4 := x4) (x7 := x7) (d := d + 1 + 1 + 3) (w := w) (b := b) (by omega) hn hm p1 p2
    refine ⟨mvs ++ [Mv.mk w b goal rs], some (.d (.str w)), some (.d (.str b)), some (.d (.list (strsD part))), d + 1 + 1 + 3 + 1, ⟨?_, ?_⟩, by omega, by simp, ?_⟩
    · intro m hm
      rcases List.mem_append.mp hm with h | h
      · exact ho.each m h
      · rw [List.mem_singleton.mp h]
        exact ⟨hb, n1, hw, n2, n3, n4⟩
    · rw [List.map_append, List.nodup_append]
      refine ⟨ho.once, by simp, ?_⟩
      intro x hx y hy e
      subst e
      have : x = (w, b) := by simpa [wb] using hy
      exact hin (this ▸ hx)
    · have hc : ∀ {o : S}, o = .iff (.cmp .NotIn (.tup (.cons (.var 8) (.cons (.var 9) .nil))) (.var 6)) bNew .nil → exe g o [some .scr, some .town, some (.d (.list (strsD names))), x3, x4, some (.own (mvs.map mvD)), some (.own ((mvs.map wb).map pairD)), x7, some (.d (.str w)), some (.d (.str b)), some (.d (.list (strsD part))), none] (3 * (d + 1 + 1 + 3)) = exes g bNew [some .scr, some .town, some (.d (.list (strsD names))), x3, x4, some (.own (mvs.map mvD)), some (.own ((mvs.map wb).map pairD)), x7, some (.d (.str w)), some (.d (.str b)), some (.d (.list (strsD part))), none] (3 * (d + 1 + 1 + 3)) := by
        intro o ho
        rw [ho]
        generalize bNew = B
        simp only [exes, exe, ev, evs, evi, go_ok, go_nx, bind_ok, pure_ok, of_some, at_ok, List.getElem?_cons_succ, List.getElem?_cons_zero, List.set_cons_succ, List.set_cons_zero, putS, setSV, kdOf, anyTr, lawIn, isTr, trI, List.length_cons, List.length_nil, wipeOk, List.all_cons, List.all_nil, wipeR, bindT, bindTs, Option.bind_some, isOmit, endOf, intOf, getL, getT, getK, getR, parOk, parS, ne_eq, not_false_eq_true, reduceCtorEq, decide_false, decide_true, Bool.or_false, Bool.false_or, Bool.or_true, Bool.true_or, Bool.and_true, Bool.true_and, Bool.not_true, Bool.not_false, Bool.false_eq_true, if_true, if_false, ite_true, ite_false, if_pos, Nat.reduceLT, Nat.reduceAdd, ↓reduceIte, tst, truD, Bool.and_self, Bool.and_false, Bool.false_and, Nat.lt_add_one, Nat.zero_lt_succ, Nat.lt_irrefl, notIn_pairs, hin]
      rw [exes_cons, hc rfl, n5]
      rfl
theorem moves_loop {g : G} (hp : PicksOk (g.fnT 1)) (hd0 : DrawsOk (g.fnT 0)) {names : List Str} {x3 x4 : Option SV} (hn : names ≠ []) : ∀ (l : List D) (mvs : List Mv) (x7 x8 x9 x10 : Option SV) (d : Nat), d + 6 * l.length < 994 → mvs.length + l.length ≤ 1000 → MvsOk names mvs →
    ∃ (mvs' : List Mv) (x7' x8' x9' x10' : Option SV) (d' : Nat), MvsOk names mvs' ∧ d' ≤ d + 6 * l.length ∧ mvs'.length ≤ mvs.length + l.length ∧
    forL (bindT (.nm 7)) (exes g bTurn) l [some .scr, some .town, some (.d (.list (strsD names))), x3, x4, some (.own (mvs.map mvD)), some (.own ((mvs.map wb).map pairD)), x7, x8, x9, x10, none] (3 * d)
     = .nx [some .scr, some .town, some (.d (.list (strsD names))), x3, x4, some (.own (mvs'.map mvD)), some (.own ((mvs'.map wb).map pairD)), x7', x8', x9', x10', none] (3 * d')
  | [], mvs, x7, x8, x9, x10, d, _, _, ho => ⟨mvs, x7, x8, x9, x10, d, ho, by omega, by omega, rfl⟩
  | x :: l, mvs, x7, x8, x9, x10, d, h1, h2, ho => by
    rw [List.length_cons] at h1 h2
    obtain ⟨m1, y8, y9, y10, d1, a1, a2, a3, a4⟩ := turn_ev hp hd0 (x3 := x3) (x4 := x4) (x7 := some (.d x)) (x8 := x8) (x9 := x9) (x10 := x10) (d := d) (by omega) hn (by omega) ho
    obtain ⟨m2, z7, z8, z9, z10, d2, c1, c2, c3, c4⟩ := moves_loop hp hd0 hn l m1 (some (.d x)) y8 y9 y10 d1 (by omega) (by omega) a1
    exact ⟨m2, z7, z8, z9, z10, d2, c1, by rw [List.length_cons]; omega, by rw [List.length_cons]; omega, forL_nx rfl a4 c4⟩
end Y

namespace Y
open PySem PySem.W PySem.Spec PyProof.Rows L2
/-! ### the drawn flow, whole -/
def bFlow : Ss :=
      (.cons (.set 2 false (.sl (.lst (.cons (.cst (.str "new")) (.cons (.cst (.str "ready")) (.cons (.cst (.str "doing")) (.cons (.cst (.str "review")) (.cons (.cst (.str "closed")) (.cons (.cst (.str "void")) .nil))))))) .omit (.bin .add (.cst (.int 1)) (.callT 0 (.cons (.cst (.int 6)) .nil)))))
      (.cons (.set 3 true (.lst (.cons (.tup (.cons (.cst (.str "new")) (.cons (.callT 1 (.cons (.lst (.cons (.cst (.str "open")) (.cons (.cst (.str "open")) (.cons (.cst (.str "doing")) .nil)))) .nil)) .nil))) .nil)))
      (.cons (.forr (.nm 4) (.lst (.sl (.var 2) (.cst (.int 1)) .omit)) bStates)
      (.cons (.par [(5, true), (6, true)] (.cons (.lst .nil) (.cons (.lst .nil) .nil)))
      (.cons (.forr (.nm 7) (.rng (.callT 0 (.cons (.bin .add (.bin .mul (.cst (.int 3)) (.bi .len (.var 2))) (.cst (.int 1))) .nil))) bTurn)
      (.cons (.ret (.tup (.cons (.bi .tuple (.var 3)) (.cons (.bi .tuple (.var 5)) .nil))))
      .nil))))))
theorem takeSix_eq {n : Nat} (h : 1 ≤ n) : takeSix n = ("new" : Str) :: (takeSix n).tail := by
  obtain ⟨n, rfl⟩ : ∃ m, n = m + 1 := ⟨n - 1, by omega⟩
  rfl
theorem takeSix_nd (n : Nat) : (takeSix n).Nodup := (List.take_sublist n six).nodup (by decide)
theorem takeSix_len {n : Nat} (h : n ≤ 6) : (takeSix n).length = n := by
  unfold takeSix
  rw [List.length_take]
  exact Nat.min_eq_left h
theorem sl_tail {a : D} {l : List D} : slD (.list (a :: l)) (some 1) none = some (.list l) := by
  show some (PyData.list (cutD (a :: l) (some 1) none)) = _
  unfold cutD
  have h1 : HT.sIx (a :: l).length 0 (some 1) = 1 := by
    unfold HT.sIx
    simp
  have h2 : HT.sIx (a :: l).length (a :: l).length none = l.length + 1 := rfl
  rw [h1, h2]
  simp
theorem drawn_ok {g : G} (hp : PicksOk (g.fnT 1)) (hd0 : DrawsOk (g.fnT 0)) {d : Nat} (hd : d < 800) : ∃ (fl : Flow) (d' : Nat), FlowOk fl ∧ d' ≤ d + 150 ∧ runT g 0 10 bFlow [] (3 * d) = .ok (flD fl, 3 * d') := by
  obtain ⟨m, m0, m1, e1⟩ := hd0 d (by omega) 6 (by decide)
  obtain ⟨n, n0, n1, e2⟩ := sl_six m0 m1
  obtain ⟨s0, _, e3⟩ := pick_strs hp (d := d + 1) (by omega) (l := ["open", "open", "doing"]) (by simp)
  simp only [strsD, List.map] at e3
  have hl := takeSix_len n1
  have hc := takeSix_eq n0
  have hnd := takeSix_nd n
  have h6 : ∀ s ∈ takeSix n, s ∈ six := fun s hs => List.mem_of_mem_take hs
  have hlt : (takeSix n).tail.length = n - 1 := by rw [List.length_tail, hl]
  generalize hN : takeSix n = names at *
  obtain ⟨sts, x4, e4, e5, e6⟩ := states_loop hp (nm := .list (strsD names)) names.tail [("new", s0)] none (d + 1 + 1) (by omega) (by rw [List.length_singleton]; omega) (by simp) (by simp)
  have hne : names ≠ [] := by rw [hc]; simp
  have hnm : sts.map (·.1) = names := by rw [e5, hc]; rfl
  generalize hd2 : d + 1 + 1 + names.tail.length = d2 at *
  obtain ⟨r, r0, r1, e7⟩ := hd0 d2 (by omega) (3 * (n : Int) + 1) (by omega)
  have hr : (rangeD r).length = r.toNat := by unfold rangeD; simp
  obtain ⟨mvs, y7, y8, y9, y10, d3, k1, k2, k3, e8⟩ := moves_loop hp hd0 (x3 := some (.own (sts.map pairD))) (x4 := x4) hne (rangeD r) [] none none none none (d2 + 1) (by omega) (by rw [List.length_nil]; omega) ⟨by simp, by simp⟩
  refine ⟨⟨sts, mvs⟩, d3, ⟨by rw [hnm]; exact hnd, ?_, ?_, ?_, ?_, k1.once, ?_⟩, by omega, ?_⟩
  · intro h
    have h' : sts = [] := h
    rw [h'] at hnm
    exact hne hnm.symm
  · have := congrArg List.length hnm
    rw [List.length_map] at this
    show sts.length ≤ 6
    omega
  · intro s hs
    exact h6 _ (by rw [← hnm]; exact List.mem_map_of_mem hs)
  · intro m hm
    have := k1.each m hm
    show m.beg ∈ sts.map (·.1) ∧ m.goal ∈ sts.map (·.1) ∧ _
    rw [hnm]
    exact ⟨this.beg, this.goal, this.word, this.some, this.role, this.few⟩
  · show mvs.length ≤ 18
    rw [List.length_nil] at k3
    omega
  · unfold runT
    rw [if_pos (show ([] : List D).length = 0 from rfl)]
    have s1 : exe g (.set 2 false (.sl (.lst (.cons (.cst (.str "new")) (.cons (.cst (.str "ready")) (.cons (.cst (.str "doing")) (.cons (.cst (.str "review")) (.cons (.cst (.str "closed")) (.cons (.cst (.str "void")) .nil))))))) .omit (.bin .add (.cst (.int 1)) (.callT 0 (.cons (.cst (.int 6)) .nil))))) [some .scr, some .town, none, none, none, none, none, none, none, none, none, none] (3 * d) = .nx [some .scr, some .town, some (.d (.list (strsD names))), none, none, none, none, none, none, none, none, none] (3 * (d + 1)) := by
      simp only [exes, exe, ev, evs, evi, go_ok, go_nx, bind_ok, pure_ok, of_some, at_ok, List.getElem?_cons_succ, List.getElem?_cons_zero, List.set_cons_succ, List.set_cons_zero, putS, setSV, kdOf, anyTr, lawIn, isTr, trI, List.length_cons, List.length_nil, wipeOk, List.all_cons, List.all_nil, wipeR, bindT, bindTs, Option.bind_some, isOmit, endOf, intOf, getL, getT, getK, getR, parOk, parS, ne_eq, not_false_eq_true, reduceCtorEq, decide_false, decide_true, Bool.or_false, Bool.false_or, Bool.or_true, Bool.true_or, Bool.and_true, Bool.true_and, Bool.not_true, Bool.not_false, Bool.false_eq_true, if_true, if_false, ite_true, ite_false, if_pos, Nat.reduceLT, Nat.reduceAdd, ↓reduceIte, tst, truD, Bool.and_self, Bool.and_false, Bool.false_and, Nat.lt_add_one, Nat.zero_lt_succ, Nat.lt_irrefl, e1, add_int, e2]
    have s2 : exe g (.set 3 true (.lst (.cons (.tup (.cons (.cst (.str "new")) (.cons (.callT 1 (.cons (.lst (.cons (.cst (.str "open")) (.cons (.cst (.str "open")) (.cons (.cst (.str "doing")) .nil)))) .nil)) .nil))) .nil))) [some .scr, some .town, some (.d (.list (strsD names))), none, none, none, none, none, none, none, none, none] (3 * (d + 1)) = .nx [some .scr, some .town, some (.d (.list (strsD names))), some (.own ([(("new" : Str), s0)].map pairD)), none, none, none, none, none, none, none, none] (3 * (d + 1 + 1)) := by
      simp only [exes, exe, ev, evs, evi, go_ok, go_nx, bind_ok, pure_ok, of_some, at_ok, List.getElem?_cons_succ, List.getElem?_cons_zero, List.set_cons_succ, List.set_cons_zero, putS, setSV, kdOf, anyTr, lawIn, isTr, trI, List.length_cons, List.length_nil, wipeOk, List.all_cons, List.all_nil, wipeR, bindT, bindTs, Option.bind_some, isOmit, endOf, intOf, getL, getT, getK, getR, parOk, parS, ne_eq, not_false_eq_true, reduceCtorEq, decide_false, decide_true, Bool.or_false, Bool.false_or, Bool.or_true, Bool.true_or, Bool.and_true, Bool.true_and, Bool.not_true, Bool.not_false, Bool.false_eq_true, if_true, if_false, ite_true, ite_false, if_pos, Nat.reduceLT, Nat.reduceAdd, ↓reduceIte, tst, truD, Bool.and_self, Bool.and_false, Bool.false_and, Nat.lt_add_one, Nat.zero_lt_succ, Nat.lt_irrefl, e3]
      rfl
    have hsl : slD (.list (strsD names)) (some 1) none = some (.list (strsD names.tail)) := by
      rw [hc]
      exact sl_tail
    have s3 : exe g (.forr (.nm 4) (.lst (.sl (.var 2) (.cst (.int 1)) .omit)) bStates) [some .scr, some .town, some (.d (.list (strsD names))), some (.own ([(("new" : Str), s0)].map pairD)), none, none, none, none, none, none, none, none] (3 * (d + 1 + 1)) = .nx [some .scr, some .town, some (.d (.list (strsD names))), some (.own (sts.map pairD)), x4, none, none, none, none, none, none, none] (3 * d2) := by
      have q : evi g (.lst (.sl (.var 2) (.cst (.int 1)) .omit)) [some .scr, some .town, some (.d (.list (strsD names))), some (.own ([(("new" : Str), s0)].map pairD)), none, none, none, none, none, none, none, none] (3 * (d + 1 + 1)) = .ok (strsD names.tail, 3 * (d + 1 + 1)) := by
        simp only [exes, exe, ev, evs, evi, go_ok, go_nx, bind_ok, pure_ok, of_some, at_ok, List.getElem?_cons_succ, List.getElem?_cons_zero, List.set_cons_succ, List.set_cons_zero, putS, setSV, kdOf, anyTr, lawIn, isTr, trI, List.length_cons, List.length_nil, wipeOk, List.all_cons, List.all_nil, wipeR, bindT, bindTs, Option.bind_some, isOmit, endOf, intOf, getL, getT, getK, getR, parOk, parS, ne_eq, not_false_eq_true, reduceCtorEq, decide_false, decide_true, Bool.or_false, Bool.false_or, Bool.or_true, Bool.true_or, Bool.and_true, Bool.true_and, Bool.not_true, Bool.not_false, Bool.false_eq_true, if_true, if_false, ite_true, ite_false, if_pos, Nat.reduceLT, Nat.reduceAdd, ↓reduceIte, tst, truD, Bool.and_self, Bool.and_false, Bool.false_and, Nat.lt_add_one, Nat.zero_lt_succ, Nat.lt_irrefl, hsl]
      unfold exe
      rw [q]
      exact e4
    have s4 : exe g (.par [(5, true), (6, true)] (.cons (.lst .nil) (.cons (.lst .nil) .nil))) [some .scr, some .town, some (.d (.list (strsD names))), some (.own (sts.map pairD)), x4, none, none, none, none, none, none, none] (3 * d2) = .nx [some .scr, some .town, some (.d (.list (strsD names))), some (.own (sts.map pairD)), x4, some (.own []), some (.own []), none, none, none, none, none] (3 * d2) := by
      simp only [exes, exe, ev, evs, evi, go_ok, go_nx, bind_ok, pure_ok, of_some, at_ok, List.getElem?_cons_succ, List.getElem?_cons_zero, List.set_cons_succ, List.set_cons_zero, putS, setSV, kdOf, anyTr, lawIn, isTr, trI, List.length_cons, List.length_nil, wipeOk, List.all_cons, List.all_nil, wipeR, bindT, bindTs, Option.bind_some, isOmit, endOf, intOf, getL, getT, getK, getR, parOk, parS, ne_eq, not_false_eq_true, reduceCtorEq, decide_false, decide_true, Bool.or_false, Bool.false_or, Bool.or_true, Bool.true_or, Bool.and_true, Bool.true_and, Bool.not_true, Bool.not_false, Bool.false_eq_true, if_true, if_false, ite_true, ite_false, if_pos, Nat.reduceLT, Nat.reduceAdd, ↓reduceIte, tst, truD, Bool.and_self, Bool.and_false, Bool.false_and, Nat.lt_add_one, Nat.zero_lt_succ, Nat.lt_irrefl]
    have hlen : biD .len (.list (strsD names)) = some (.int n) := by
      show some (PyData.int ((strsD names).length : Int)) = _
      unfold strsD
      rw [List.length_map, hl]
    have hmul : binD .mul (.int 3) (.int n) = some (.int (3 * n)) := mul_small' (by decide)
    have hrng : decide (-(2 ^ 62) ≤ r ∧ r < 2 ^ 62 ∧ r ≤ 16777216) = true := decide_eq_true (by
      have : (2 : Int) ^ 62 = 4611686018427387904 := by decide
      omega)
    have s5 : exe g (.forr (.nm 7) (.rng (.callT 0 (.cons (.bin .add (.bin .mul (.cst (.int 3)) (.bi .len (.var 2))) (.cst (.int 1))) .nil))) bTurn) [some .scr, some .town, some (.d (.list (strsD names))), some (.own (sts.map pairD)), x4, some (.own []), some (.own []), none, none, none, none, none] (3 * d2) = .nx [some .scr, some .town, some (.d (.list (strsD names))), some (.own (sts.map pairD)), x4, some (.own (mvs.map mvD)), some (.own ((mvs.map wb).map pairD)), y7, y8, y9, y10, none] (3 * d3) := by
      have q : evi g (.rng (.callT 0 (.cons (.bin .add (.bin .mul (.cst (.int 3)) (.bi .len (.var 2))) (.cst (.int 1))) .nil))) [some .scr, some .town, some (.d (.list (strsD names))), some (.own (sts.map pairD)), x4, some (.own []), some (.own []), none, none, none, none, none] (3 * d2) = .ok (rangeD r, 3 * (d2 + 1)) := by
        simp only [exes, exe, ev, evs, evi, go_ok, go_nx, bind_ok, pure_ok, of_some, at_ok, List.getElem?_cons_succ, List.getElem?_cons_zero, List.set_cons_succ, List.set_cons_zero, putS, setSV, kdOf, anyTr, lawIn, isTr, trI, List.length_cons, List.length_nil, wipeOk, List.all_cons, List.all_nil, wipeR, bindT, bindTs, Option.bind_some, isOmit, endOf, intOf, getL, getT, getK, getR, parOk, parS, ne_eq, not_false_eq_true, reduceCtorEq, decide_false, decide_true, Bool.or_false, Bool.false_or, Bool.or_true, Bool.true_or, Bool.and_true, Bool.true_and, Bool.not_true, Bool.not_false, Bool.false_eq_true, if_true, if_false, ite_true, ite_false, if_pos, Nat.reduceLT, Nat.reduceAdd, ↓reduceIte, tst, truD, Bool.and_self, Bool.and_false, Bool.false_and, Nat.lt_add_one, Nat.zero_lt_succ, Nat.lt_irrefl, hlen, hmul, add_int, e7, hrng]
      unfold exe
      rw [q]
      exact e8
    show fin (exes g bFlow [some .scr, some .town, none, none, none, none, none, none, none, none, none, none] (3 * d)) = _
    unfold bFlow
    rw [exes_cons, s1, go_nx, exes_cons, s2, go_nx, exes_cons, s3, go_nx, exes_cons, s4, go_nx, exes_cons, s5, go_nx]
    have b2 : ∀ l, biD .tuple (.list l) = some (.tuple l) := fun l => rfl
    simp only [exes, exe, ev, evs, evi, go_ok, go_nx, bind_ok, pure_ok, of_some, at_ok, List.getElem?_cons_succ, List.getElem?_cons_zero, List.set_cons_succ, List.set_cons_zero, putS, setSV, kdOf, anyTr, lawIn, isTr, trI, List.length_cons, List.length_nil, wipeOk, List.all_cons, List.all_nil, wipeR, bindT, bindTs, Option.bind_some, isOmit, endOf, intOf, getL, getT, getK, getR, parOk, parS, ne_eq, not_false_eq_true, reduceCtorEq, decide_false, decide_true, Bool.or_false, Bool.false_or, Bool.or_true, Bool.true_or, Bool.and_true, Bool.true_and, Bool.not_true, Bool.not_false, Bool.false_eq_true, if_true, if_false, ite_true, ite_false, if_pos, Nat.reduceLT, Nat.reduceAdd, ↓reduceIte, tst, truD, Bool.and_self, Bool.and_false, Bool.false_and, Nat.lt_add_one, Nat.zero_lt_succ, Nat.lt_irrefl, b2]
    rfl
end Y

namespace Y
open PySem PySem.W PySem.Spec PyProof.Rows L2
/-! ### questions about moves -/
def rolD : Option (List Str) → D
  | none => .none
  | some l => .tuple (strsD l)
def mayDo (m : Mv) : Option (List Str) → Bool
  | none => true
  | some l => l.any fun r => decide (r ∈ m.roles)
def bMay : Ss :=
      (.cons (.ret (.bop true (.cmp .Is (.var 1) (.cst .none)) (.bi .any (.comp [2] (.nm 2) (.tup (.var 1)) (.cst (.bool true)) (.cmp .In (.var 2) (.ix (.var 0) (.cst (.int 3))))))))
      .nil)
theorem mv_at {m : Mv} : ixD (mvD m) (.int 0) = some (.str m.word) ∧ ixD (mvD m) (.int 1) = some (.str m.beg) ∧ ixD (mvD m) (.int 2) = some (.str m.goal) ∧ ixD (mvD m) (.int 3) = some (.tuple (strsD m.roles)) := ⟨rfl, rfl, rfl, rfl⟩
theorem in_tup {a : Str} {l : List Str} : cmpD .In (.str a) (.tuple (strsD l)) = some (decide (a ∈ l)) := in_strs.2
theorem may_comp {g : G} {m : Mv} {x1 : Option SV} : ∀ (l : List Str) (k : Nat), compL (fun x => bindT (.nm 2) x [some (.d (mvD m)), x1, none]) (fun ρ k => tstR (ev g (.cst (.bool true)) ρ k)) (fun ρ k => if kdOf ρ (.cmp .In (.var 2) (.ix (.var 0) (.cst (.int 3)))) = .tr then R.no else (ev g (.cmp .In (.var 2) (.ix (.var 0) (.cst (.int 3)))) ρ k).nox) (strsD l) k = .ok (l.map fun r => .bool (decide (r ∈ m.roles)), k)
  | [], k => rfl
  | a :: l, k => by
    refine compL_t (k1 := k) (k2 := k) rfl rfl ?_ (may_comp l k)
    simp only [exes, exe, ev, evs, evi, go_ok, go_nx, bind_ok, pure_ok, of_some, at_ok, List.getElem?_cons_succ, List.getElem?_cons_zero, List.set_cons_succ, List.set_cons_zero, putS, setSV, kdOf, anyTr, lawIn, isTr, trI, List.length_cons, List.length_nil, wipeOk, List.all_cons, List.all_nil, wipeR, bindT, bindTs, Option.bind_some, isOmit, endOf, intOf, getL, getT, getK, getR, parOk, parS, ne_eq, not_false_eq_true, reduceCtorEq, decide_false, decide_true, Bool.or_false, Bool.false_or, Bool.or_true, Bool.true_or, Bool.and_true, Bool.true_and, Bool.not_true, Bool.not_false, Bool.false_eq_true, if_true, if_false, ite_true, ite_false, if_pos, Nat.reduceLT, Nat.reduceAdd, ↓reduceIte, tst, truD, Bool.and_self, Bool.and_false, Bool.false_and, Nat.lt_add_one, Nat.zero_lt_succ, Nat.lt_irrefl, mv_at.2.2.2, in_tup, R.nox]
theorem boolsOf_map {α : Type} {f : α → Bool} : ∀ {l : List α}, boolsOf (l.map fun x => .bool (f x)) = some (l.map f)
  | [] => rfl
  | a :: l => by
    simp only [List.map_cons, boolsOf, boolOf, boolsOf_map (l := l)]
    rfl
theorem runD_rt {g : G} {np n k : Nat} {b : Ss} {ds : List D} {ρ : Rho} {x : D} (hl : ds.length = np) (hr : ds.map (fun x => some (SV.d x)) ++ List.replicate n none = ρ) (h : exes g b ρ 0 = .rt x k) : runD g np n b ds = .ok x := by
  unfold runD
  rw [if_pos hl, hr, h]
  rfl
theorem may_ok {g : G} {m : Mv} {rl : Option (List Str)} : runD g 2 1 bMay [mvD m, rolD rl] = .ok (.bool (mayDo m rl)) := by
  cases rl with
  | none =>
    have : exes g bMay [some (.d (mvD m)), some (.d .none), none] 0 = .rt (.bool true) 0 := by
      have : cmpD .Is .none .none = some true := rfl
      simp only [exes, exe, ev, evs, evi, go_ok, go_nx, bind_ok, pure_ok, of_some, at_ok, List.getElem?_cons_succ, List.getElem?_cons_zero, List.set_cons_succ, List.set_cons_zero, putS, setSV, kdOf, anyTr, lawIn, isTr, trI, List.length_cons, List.length_nil, wipeOk, List.all_cons, List.all_nil, wipeR, bindT, bindTs, Option.bind_some, isOmit, endOf, intOf, getL, getT, getK, getR, parOk, parS, ne_eq, not_false_eq_true, reduceCtorEq, decide_false, decide_true, Bool.or_false, Bool.false_or, Bool.or_true, Bool.true_or, Bool.and_true, Bool.true_and, Bool.not_true, Bool.not_false, Bool.false_eq_true, if_true, if_false, ite_true, ite_false, if_pos, Nat.reduceLT, Nat.reduceAdd, ↓reduceIte, tst, truD, Bool.and_self, Bool.and_false, Bool.false_and, Nat.lt_add_one, Nat.zero_lt_succ, Nat.lt_irrefl, bMay, this]
      rfl
    exact runD_rt rfl rfl this
  | some l =>
    have h1 : ev g (.cmp .Is (.var 1) (.cst .none)) [some (.d (mvD m)), some (.d (.tuple (strsD l))), none] 0 = .ok (.bool false, 0) := rfl
    have h2 : ev g (.comp [2] (.nm 2) (.tup (.var 1)) (.cst (.bool true)) (.cmp .In (.var 2) (.ix (.var 0) (.cst (.int 3))))) [some (.d (mvD m)), some (.d (.tuple (strsD l))), none] 0 = .ok (.list (l.map fun r => .bool (decide (r ∈ m.roles))), 0) := by
      have e4 : evi g (.tup (.var 1)) [some (.d (mvD m)), some (.d (.tuple (strsD l))), none] 0 = .ok (strsD l, 0) := rfl
      unfold ev
      rw [show wipeOk [some (.d (mvD m)), some (.d (.tuple (strsD l))), none] [2] = true from rfl, e4, bind_ok]
      dsimp only
      rw [show wipeR [some (.d (mvD m)), some (.d (.tuple (strsD l))), none] [2] = [some (.d (mvD m)), some (.d (.tuple (strsD l))), none] from rfl, may_comp, bind_ok]
      rfl
    have h3 : ev g (.bi .any (.comp [2] (.nm 2) (.tup (.var 1)) (.cst (.bool true)) (.cmp .In (.var 2) (.ix (.var 0) (.cst (.int 3)))))) [some (.d (mvD m)), some (.d (.tuple (strsD l))), none] 0 = .ok (.bool (l.any fun r => decide (r ∈ m.roles)), 0) := by
      unfold ev
      rw [h2, bind_ok]
      show (R.of ((boolsOf _).map _) >>= _) = _
      rw [boolsOf_map]
      show R.ok (PyData.bool ((l.map fun r => decide (r ∈ m.roles)).any id), 0) = _
      rw [List.any_map]
      rfl
    have h4 : exes g bMay [some (.d (mvD m)), some (.d (.tuple (strsD l))), none] 0 = .rt (.bool (mayDo m (some l))) 0 := by
      unfold bMay
      rw [exes_cons]
      unfold exe ev
      rw [h1, bind_ok]
      show ((ev g (.bi .any _) _ 0).go _).go _ = _
      rw [h3]
      rfl
    exact runD_rt rfl rfl h4
end Y

namespace Y
open PySem PySem.W PySem.Spec PyProof.Rows L2
/-! ### goal_of, moves_from -/
theorem eqD_str {a b : Str} : cmpD .Eq (.str a) (.str b) = some (decide (a = b)) := by
  show eqD _ _ = _
  unfold eqD
  rw [dOk_str, dOk_str, eqv_str]
  rfl
theorem eqD_pair {a b c d : Str} : cmpD .Eq (.tuple [.str a, .str b]) (.tuple [.str c, .str d]) = some (decide ((a, b) = (c, d))) := by
  show eqD _ _ = _
  unfold eqD
  rw [show dOk (.tuple [.str a, .str b]) = true from dOk_pair (a := (a, b)), show dOk (.tuple [.str c, .str d]) = true from dOk_pair (a := (c, d)), show PyData.eqv (.tuple [.str a, .str b]) (.tuple [.str c, .str d]) = _ from eqv_pair (a := (a, b)) (b := (c, d))]
  rfl
theorem forL_rt {bnd : D → Rho → Option Rho} {body : Rho → Nat → Out} {x y : D} {l : List D} {ρ ρ1 : Rho} {k k2 : Nat} (h1 : bnd x ρ = some ρ1) (h2 : body ρ1 k = .rt y k2) : forL bnd body (x :: l) ρ k = .rt y k2 := by
  unfold forL
  rw [h1]
  dsimp only
  rw [h2]
def bGoal1 : Ss := .cons (.iff (.cmp .Eq (.tup (.cons (.var 3) (.cons (.var 4) .nil))) (.tup (.cons (.var 2) (.cons (.var 1) .nil)))) (.cons (.ret (.var 5)) .nil) .nil) .nil
def bGoal : Ss :=
      (.cons (.forr (.tp (.cons (.nm 3) (.cons (.nm 4) (.cons (.nm 5) (.cons (.nm 6) .nil))))) (.tup (.ix (.var 0) (.cst (.int 1)))) bGoal1)
      (.cons (.ret (.cst .none))
      .nil))
def goalIn (st w : Str) : List Mv → Option Str
  | [] => none
  | m :: l => if (m.word, m.beg) = (w, st) then some m.goal else goalIn st w l
def strO : Option Str → D
  | none => .none
  | some x => .str x
theorem goal_loop {g : G} {x0 : Option SV} {st w : Str} : ∀ (mvs : List Mv) (x3 x4 x5 x6 : Option SV) (k : Nat),
    (∀ z, goalIn st w mvs = some z → forL (bindT (.tp (.cons (.nm 3) (.cons (.nm 4) (.cons (.nm 5) (.cons (.nm 6) .nil)))))) (exes g bGoal1) (mvs.map mvD) [x0, some (.d (.str st)), some (.d (.str w)), x3, x4, x5, x6] k = .rt (.str z) k) ∧
    (goalIn st w mvs = none → ∃ ρ, forL (bindT (.tp (.cons (.nm 3) (.cons (.nm 4) (.cons (.nm 5) (.cons (.nm 6) .nil)))))) (exes g bGoal1) (mvs.map mvD) [x0, some (.d (.str st)), some (.d (.str w)), x3, x4, x5, x6] k = .nx ρ k)
  | [], _, _, _, _, k => ⟨fun z h => (nomatch h), fun _ => ⟨_, rfl⟩⟩
  | m :: l, x3, x4, x5, x6, k => by
    have ih := goal_loop (g := g) (x0 := x0) (st := st) (w := w) l (some (.d (.str m.word))) (some (.d (.str m.beg))) (some (.d (.str m.goal))) (some (.d (.tuple (strsD m.roles)))) k
    rw [List.map_cons]
    by_cases h : (m.word, m.beg) = (w, st)
    · have e : goalIn st w (m :: l) = some m.goal := if_pos h
      rw [e]
      refine ⟨fun z hz => ?_, fun h => by cases h⟩
      cases hz
      refine forL_rt rfl ?_
      simp only [exes, exe, ev, evs, evi, go_ok, go_nx, bind_ok, pure_ok, of_some, at_ok, List.getElem?_cons_succ, List.getElem?_cons_zero, List.set_cons_succ, List.set_cons_zero, putS, setSV, kdOf, anyTr, lawIn, isTr, trI, List.length_cons, List.length_nil, wipeOk, List.all_cons, List.all_nil, wipeR, bindT, bindTs, Option.bind_some, isOmit, endOf, intOf, getL, getT, getK, getR, parOk, parS, ne_eq, not_false_eq_true, reduceCtorEq, decide_false, decide_true, Bool.or_false, Bool.false_or, Bool.or_true, Bool.true_or, Bool.and_true, Bool.true_and, Bool.not_true, Bool.not_false, Bool.false_eq_true, if_true, if_false, ite_true, ite_false, if_pos, Nat.reduceLT, Nat.reduceAdd, ↓reduceIte, tst, truD, Bool.and_self, Bool.and_false, Bool.false_and, Nat.lt_add_one, Nat.zero_lt_succ, Nat.lt_irrefl, bGoal1, eqD_pair, h]
      rfl
    · have e : goalIn st w (m :: l) = goalIn st w l := if_neg h
      rw [e]
      have s : exes g bGoal1 [x0, some (.d (.str st)), some (.d (.str w)), some (.d (.str m.word)), some (.d (.str m.beg)), some (.d (.str m.goal)), some (.d (.tuple (strsD m.roles)))] k = .nx [x0, some (.d (.str st)), some (.d (.str w)), some (.d (.str m.word)), some (.d (.str m.beg)), some (.d (.str m.goal)), some (.d (.tuple (strsD m.roles)))] k := by
        simp only [exes, exe, ev, evs, evi, go_ok, go_nx, bind_ok, pure_ok, of_some, at_ok, List.getElem?_cons_succ, List.getElem?_cons_zero, List.set_cons_succ, List.set_cons_zero, putS, setSV, kdOf, anyTr, lawIn, isTr, trI, List.length_cons, List.length_nil, wipeOk, List.all_cons, List.all_nil, wipeR, bindT, bindTs, Option.bind_some, isOmit, endOf, intOf, getL, getT, getK, getR, parOk, parS, ne_eq, not_false_eq_true, reduceCtorEq, decide_false, decide_true, Bool.or_false, Bool.false_or, Bool.or_true, Bool.true_or, Bool.and_true, Bool.true_and, Bool.not_true, Bool.not_false, Bool.false_eq_true, if_true, if_false, ite_true, ite_false, if_pos, Nat.reduceLT, Nat.reduceAdd, ↓reduceIte, tst, truD, Bool.and_self, Bool.and_false, Bool.false_and, Nat.lt_add_one, Nat.zero_lt_succ, Nat.lt_irrefl, bGoal1, eqD_pair, h]
      refine ⟨fun z hz => forL_nx rfl s (ih.1 z hz), fun hz => ?_⟩
      obtain ⟨ρ, hρ⟩ := ih.2 hz
      exact ⟨ρ, forL_nx rfl s hρ⟩
theorem fl_at {fl : Flow} : ixD (flD fl) (.int 0) = some (.tuple (fl.states.map pairD)) ∧ ixD (flD fl) (.int 1) = some (.tuple (fl.moves.map mvD)) := ⟨rfl, rfl⟩
theorem goal_ok {g : G} {fl : Flow} {st w : Str} : runD g 3 4 bGoal [flD fl, .str st, .str w] = .ok (strO (goalIn st w fl.moves)) := by
  have q : evi g (.tup (.ix (.var 0) (.cst (.int 1)))) [some (.d (flD fl)), some (.d (.str st)), some (.d (.str w)), none, none, none, none] 0 = .ok (fl.moves.map mvD, 0) := by
    simp only [exes, exe, ev, evs, evi, go_ok, go_nx, bind_ok, pure_ok, of_some, at_ok, List.getElem?_cons_succ, List.getElem?_cons_zero, List.set_cons_succ, List.set_cons_zero, putS, setSV, kdOf, anyTr, lawIn, isTr, trI, List.length_cons, List.length_nil, wipeOk, List.all_cons, List.all_nil, wipeR, bindT, bindTs, Option.bind_some, isOmit, endOf, intOf, getL, getT, getK, getR, parOk, parS, ne_eq, not_false_eq_true, reduceCtorEq, decide_false, decide_true, Bool.or_false, Bool.false_or, Bool.or_true, Bool.true_or, Bool.and_true, Bool.true_and, Bool.not_true, Bool.not_false, Bool.false_eq_true, if_true, if_false, ite_true, ite_false, if_pos, Nat.reduceLT, Nat.reduceAdd, ↓reduceIte, tst, truD, Bool.and_self, Bool.and_false, Bool.false_and, Nat.lt_add_one, Nat.zero_lt_succ, Nat.lt_irrefl, fl_at.2]
  have h := goal_loop (g := g) (x0 := some (.d (flD fl))) (st := st) (w := w) fl.moves none none none none 0
  have s1 : ∀ o, forL (bindT (.tp (.cons (.nm 3) (.cons (.nm 4) (.cons (.nm 5) (.cons (.nm 6) .nil)))))) (exes g bGoal1) (fl.moves.map mvD) [some (.d (flD fl)), some (.d (.str st)), some (.d (.str w)), none, none, none, none] 0 = o → exe g (.forr (.tp (.cons (.nm 3) (.cons (.nm 4) (.cons (.nm 5) (.cons (.nm 6) .nil))))) (.tup (.ix (.var 0) (.cst (.int 1)))) bGoal1) [some (.d (flD fl)), some (.d (.str st)), some (.d (.str w)), none, none, none, none] 0 = o := by
    intro o ho
    unfold exe
    rw [q]
    exact ho
  cases hz : goalIn st w fl.moves with
  | none =>
    obtain ⟨ρ, hρ⟩ := h.2 hz
    refine runD_rt rfl rfl (k := 0) ?_
    show exes g bGoal [some (.d (flD fl)), some (.d (.str st)), some (.d (.str w)), none, none, none, none] 0 = _
    unfold bGoal
    rw [exes_cons, s1 _ hρ]
    rfl
  | some z =>
    refine runD_rt rfl rfl (k := 0) ?_
    show exes g bGoal [some (.d (flD fl)), some (.d (.str st)), some (.d (.str w)), none, none, none, none] 0 = _
    unfold bGoal
    rw [exes_cons, s1 _ (h.1 z hz)]
    rfl
/-! moves_from -/
def bMvs : Ss :=
      (.cons (.ret (.bi .tuple (.comp [3] (.nm 3) (.tup (.ix (.var 0) (.cst (.int 1)))) (.bop false (.cmp .Eq (.ix (.var 3) (.cst (.int 1))) (.var 1)) (.call 0 (.cons (.var 3) (.cons (.var 2) .nil)) .nil)) (.ix (.var 3) (.cst (.int 0))))))
      .nil)
def movesOf (st : Str) (rl : Option (List Str)) : List Mv → List Str
  | [] => []
  | m :: l => if m.beg = st ∧ mayDo m rl = true then m.word :: movesOf st rl l else movesOf st rl l
def MayOk (f : List D → R D) : Prop := ∀ m rl, f [mvD m, rolD rl] = .ok (.bool (mayDo m rl))
theorem mvs_comp {g : G} (hm : MayOk (g.fn 0)) {x0 : Option SV} {st : Str} {rl : Option (List Str)} : ∀ (mvs : List Mv) (k : Nat),
    compL (fun x => bindT (.nm 3) x [x0, some (.d (.str st)), some (.d (rolD rl)), none]) (fun ρ k => tstR (ev g (.bop false (.cmp .Eq (.ix (.var 3) (.cst (.int 1))) (.var 1)) (.call 0 (.cons (.var 3) (.cons (.var 2) .nil)) .nil)) ρ k)) (fun ρ k => if kdOf ρ (.ix (.var 3) (.cst (.int 0))) = .tr then R.no else (ev g (.ix (.var 3) (.cst (.int 0))) ρ k).nox) (mvs.map mvD) k = .ok (strsD (movesOf st rl mvs), k)
  | [], k => rfl
  | m :: l, k => by
    have ih := mvs_comp hm (x0 := x0) (st := st) (rl := rl) l k
    have hb := hm m rl
    rw [List.map_cons]
    by_cases h : m.beg = st
    · by_cases h2 : mayDo m rl = true
      · rw [show movesOf st rl (m :: l) = m.word :: movesOf st rl l from if_pos ⟨h, h2⟩]
        refine compL_t (k1 := k) (k2 := k) rfl ?_ ?_ ih
        · simp only [exes, exe, ev, evs, evi, go_ok, go_nx, bind_ok, pure_ok, of_some, at_ok, List.getElem?_cons_succ, List.getElem?_cons_zero, List.set_cons_succ, List.set_cons_zero, putS, setSV, kdOf, anyTr, lawIn, isTr, trI, List.length_cons, List.length_nil, wipeOk, List.all_cons, List.all_nil, wipeR, bindT, bindTs, Option.bind_some, isOmit, endOf, intOf, getL, getT, getK, getR, parOk, parS, ne_eq, not_false_eq_true, reduceCtorEq, decide_false, decide_true, Bool.or_false, Bool.false_or, Bool.or_true, Bool.true_or, Bool.and_true, Bool.true_and, Bool.not_true, Bool.not_false, Bool.false_eq_true, if_true, if_false, ite_true, ite_false, if_pos, Nat.reduceLT, Nat.reduceAdd, ↓reduceIte, tst, truD, Bool.and_self, Bool.and_false, Bool.false_and, Nat.lt_add_one, Nat.zero_lt_succ, Nat.lt_irrefl, tstR, mv_at.2.1, eqD_str, h, hb, h2, List.cons_append, List.nil_append, List.append_nil, R.nox]
        · simp only [exes, exe, ev, evs, evi, go_ok, go_nx, bind_ok, pure_ok, of_some, at_ok, List.getElem?_cons_succ, List.getElem?_cons_zero, List.set_cons_succ, List.set_cons_zero, putS, setSV, kdOf, anyTr, lawIn, isTr, trI, List.length_cons, List.length_nil, wipeOk, List.all_cons, List.all_nil, wipeR, bindT, bindTs, Option.bind_some, isOmit, endOf, intOf, getL, getT, getK, getR, parOk, parS, ne_eq, not_false_eq_true, reduceCtorEq, decide_false, decide_true, Bool.or_false, Bool.false_or, Bool.or_true, Bool.true_or, Bool.and_true, Bool.true_and, Bool.not_true, Bool.not_false, Bool.false_eq_true, if_true, if_false, ite_true, ite_false, if_pos, Nat.reduceLT, Nat.reduceAdd, ↓reduceIte, tst, truD, Bool.and_self, Bool.and_false, Bool.false_and, Nat.lt_add_one, Nat.zero_lt_succ, Nat.lt_irrefl, mv_at.1, R.nox]
      · rw [show movesOf st rl (m :: l) = movesOf st rl l from if_neg fun z => h2 z.2]
        refine compL_f (k1 := k) rfl ?_ ih
        simp only [exes, exe, ev, evs, evi, go_ok, go_nx, bind_ok, pure_ok, of_some, at_ok, List.getElem?_cons_succ, List.getElem?_cons_zero, List.set_cons_succ, List.set_cons_zero, putS, setSV, kdOf, anyTr, lawIn, isTr, trI, List.length_cons, List.length_nil, wipeOk, List.all_cons, List.all_nil, wipeR, bindT, bindTs, Option.bind_some, isOmit, endOf, intOf, getL, getT, getK, getR, parOk, parS, ne_eq, not_false_eq_true, reduceCtorEq, decide_false, decide_true, Bool.or_false, Bool.false_or, Bool.or_true, Bool.true_or, Bool.and_true, Bool.true_and, Bool.not_true, Bool.not_false, Bool.false_eq_true, if_true, if_false, ite_true, ite_false, if_pos, Nat.reduceLT, Nat.reduceAdd, ↓reduceIte, tst, truD, Bool.and_self, Bool.and_false, Bool.false_and, Nat.lt_add_one, Nat.zero_lt_succ, Nat.lt_irrefl, tstR, mv_at.2.1, eqD_str, h, hb, Bool.not_eq_true _ ▸ h2, List.cons_append, List.nil_append, List.append_nil, R.nox]
    · rw [show movesOf st rl (m :: l) = movesOf st rl l from if_neg fun z => h z.1]
      refine compL_f (k1 := k) rfl ?_ ih
      simp only [exes, exe, ev, evs, evi, go_ok, go_nx, bind_ok, pure_ok, of_some, at_ok, List.getElem?_cons_succ, List.getElem?_cons_zero, List.set_cons_succ, List.set_cons_zero, putS, setSV, kdOf, anyTr, lawIn, isTr, trI, List.length_cons, List.length_nil, wipeOk, List.all_cons, List.all_nil, wipeR, bindT, bindTs, Option.bind_some, isOmit, endOf, intOf, getL, getT, getK, getR, parOk, parS, ne_eq, not_false_eq_true, reduceCtorEq, decide_false, decide_true, Bool.or_false, Bool.false_or, Bool.or_true, Bool.true_or, Bool.and_true, Bool.true_and, Bool.not_true, Bool.not_false, Bool.false_eq_true, if_true, if_false, ite_true, ite_false, if_pos, Nat.reduceLT, Nat.reduceAdd, ↓reduceIte, tst, truD, Bool.and_self, Bool.and_false, Bool.false_and, Nat.lt_add_one, Nat.zero_lt_succ, Nat.lt_irrefl, tstR, mv_at.2.1, eqD_str, h, R.nox]
end Y

namespace Y
open PySem PySem.W PySem.Spec PyProof.Rows L2
theorem mvs_ok {g : G} (hm : MayOk (g.fn 0)) {fl : Flow} {st : Str} {rl : Option (List Str)} : runD g 3 1 bMvs [flD fl, .str st, rolD rl] = .ok (.tuple (strsD (movesOf st rl fl.moves))) := by
  refine runD_rt rfl rfl (k := 0) ?_
  show exes g bMvs [some (.d (flD fl)), some (.d (.str st)), some (.d (rolD rl)), none] 0 = _
  have e4 : evi g (.tup (.ix (.var 0) (.cst (.int 1)))) [some (.d (flD fl)), some (.d (.str st)), some (.d (rolD rl)), none] 0 = .ok (fl.moves.map mvD, 0) := by
    simp only [exes, exe, ev, evs, evi, go_ok, go_nx, bind_ok, pure_ok, of_some, at_ok, List.getElem?_cons_succ, List.getElem?_cons_zero, List.set_cons_succ, List.set_cons_zero, putS, setSV, kdOf, anyTr, lawIn, isTr, trI, List.length_cons, List.length_nil, wipeOk, List.all_cons, List.all_nil, wipeR, bindT, bindTs, Option.bind_some, isOmit, endOf, intOf, getL, getT, getK, getR, parOk, parS, ne_eq, not_false_eq_true, reduceCtorEq, decide_false, decide_true, Bool.or_false, Bool.false_or, Bool.or_true, Bool.true_or, Bool.and_true, Bool.true_and, Bool.not_true, Bool.not_false, Bool.false_eq_true, if_true, if_false, ite_true, ite_false, if_pos, Nat.reduceLT, Nat.reduceAdd, ↓reduceIte, tst, truD, Bool.and_self, Bool.and_false, Bool.false_and, Nat.lt_add_one, Nat.zero_lt_succ, Nat.lt_irrefl, fl_at.2]
  have e5 : ev g (.comp [3] (.nm 3) (.tup (.ix (.var 0) (.cst (.int 1)))) (.bop false (.cmp .Eq (.ix (.var 3) (.cst (.int 1))) (.var 1)) (.call 0 (.cons (.var 3) (.cons (.var 2) .nil)) .nil)) (.ix (.var 3) (.cst (.int 0)))) [some (.d (flD fl)), some (.d (.str st)), some (.d (rolD rl)), none] 0 = .ok (.list (strsD (movesOf st rl fl.moves)), 0) := by
    unfold ev
    rw [show wipeOk [some (.d (flD fl)), some (.d (.str st)), some (.d (rolD rl)), none] [3] = true from rfl, e4, bind_ok]
    dsimp only
    rw [show wipeR [some (.d (flD fl)), some (.d (.str st)), some (.d (rolD rl)), none] [3] = [some (.d (flD fl)), some (.d (.str st)), some (.d (rolD rl)), none] from rfl, mvs_comp hm, bind_ok]
    rfl
  unfold bMvs
  rw [exes_cons]
  unfold exe ev
  rw [e5, bind_ok]
  rfl
/-! ### ways_from -/
abbrev Fd := List (Str × List Str)
def fdD (f : Fd) : List (D × D) := f.map fun q => (.str q.1, .tuple (strsD q.2))
def fget (f : Fd) (x : Str) : Option (List Str) := match f with
  | [] => none
  | q :: f => if q.1 = x then some q.2 else fget f x
theorem fd_kind {f : Fd} : kindD (fdD f) = false := by
  cases f <;> rfl
theorem fd_get {f : Fd} {x : Str} : dget (fdD f) (.str x) = (fget f x).map fun p => .tuple (strsD p) := by
  induction f with
  | nil => rfl
  | cons q f ih =>
    unfold dget fdD
    rw [List.map_cons, List.find?_cons]
    dsimp only
    rw [eqv_str]
    unfold fget
    by_cases h : q.1 = x
    · rw [if_pos h, decide_eq_true h]
      rfl
    · rw [if_neg h, decide_eq_false h]
      exact ih
theorem fd_in {f : Fd} {x : Str} : cmpD .NotIn (.str x) (.dict (fdD f)) = some (!(fget f x).isSome) := by
  show (inD _ _).map _ = _
  unfold inD
  dsimp only
  rw [fd_kind, show keyOk false (.str x) = true from rfl, if_pos rfl, fd_get]
  cases fget f x <;> rfl
theorem fd_in' {f : Fd} {x : Str} : cmpD .In (.str x) (.dict (fdD f)) = some (fget f x).isSome := by
  show inD (.str x) (.dict (fdD f)) = _
  unfold inD
  dsimp only
  rw [fd_kind, show keyOk false (.str x) = true from rfl, if_pos rfl, fd_get]
  cases fget f x <;> rfl
theorem fd_ix {f : Fd} {x : Str} {p : List Str} (h : fget f x = some p) : ixD (.dict (fdD f)) (.str x) = some (.tuple (strsD p)) := by
  unfold ixD
  dsimp only
  rw [fd_kind, show keyOk false (.str x) = true from rfl, if_pos rfl, fd_get, h]
  rfl
theorem fd_any {f : Fd} {x : Str} : ((fdD f).any fun kv => PyData.eqv kv.1 (.str x)) = (fget f x).isSome := by
  induction f with
  | nil => rfl
  | cons q f ih =>
    unfold fdD
    rw [List.map_cons, List.any_cons]
    dsimp only
    rw [eqv_str]
    unfold fget
    by_cases h : q.1 = x
    · rw [if_pos h, decide_eq_true h]
      rfl
    · rw [if_neg h, decide_eq_false h]
      exact ih
theorem fd_put {f : Fd} {x : Str} {p : List Str} (h : fget f x = none) : dput (fdD f) (.str x) (.tuple (strsD p)) = fdD (f ++ [(x, p)]) := by
  unfold dput
  rw [fd_any, h]
  unfold fdD
  rw [List.map_append]
  rfl
theorem fget_app {f : Fd} {x y : Str} {p : List Str} : fget (f ++ [(y, p)]) x = (match fget f x with
    | some q => some q
    | none => if y = x then some p else none) := by
  induction f with
  | nil => rfl
  | cons q f ih =>
    rw [List.cons_append]
    unfold fget
    by_cases h : q.1 = x
    · rw [if_pos h, if_pos h]
    · rw [if_neg h, if_neg h]
      exact ih
end Y

namespace Y
open PySem PySem.W PySem.Spec PyProof.Rows L2
/-! ### the turns of ways_from -/
def bWayIn : Ss := (.cons (.iff (.bop false (.cmp .Eq (.ix (.var 6) (.cst (.int 1))) (.var 5)) (.bop false (.cmp .NotIn (.ix (.var 6) (.cst (.int 2))) (.var 3)) (.call 0 (.cons (.var 6) (.cons (.var 2) .nil)) .nil))) (.cons (.put 3 (.ix (.var 6) (.cst (.int 2))) (.bin .add (.ix (.var 3) (.var 5)) (.tup (.cons (.ix (.var 6) (.cst (.int 0))) .nil))))
      (.cons (.app 4 (.ix (.var 6) (.cst (.int 2))))
      .nil)) .nil)
      .nil)
/-- what holds of the ways found -/
structure WOk (names : List Str) (f : Fd) (row : List Str) : Prop where
  nd : (f.map (·.1)).Nodup
  sub : ∀ x ∈ f.map (·.1), x ∈ names
  row : ∀ x ∈ row, (fget f x).isSome
  len : ∀ q ∈ f, q.2.length < f.length
theorem fget_mem {f : Fd} {x : Str} : (fget f x).isSome = true ↔ x ∈ f.map (·.1) := by
  induction f with
  | nil => simp [fget]
  | cons q f ih =>
    unfold fget
    by_cases h : q.1 = x
    · rw [if_pos h]; simp [h]
    · rw [if_neg h, ih]
      have h' : ¬ x = q.1 := fun e => h e.symm
      simp [h']
theorem fget_in {f : Fd} {x : Str} {p : List Str} (h : fget f x = some p) : (x, p) ∈ f := by
  induction f with
  | nil => cases h
  | cons q f ih =>
    unfold fget at h
    by_cases e : q.1 = x
    · rw [if_pos e] at h
      cases h
      rw [← e]
      exact List.mem_cons_self ..
    · rw [if_neg e] at h
      exact List.mem_cons_of_mem _ (ih h)
theorem WOk.few {names : List Str} {f : Fd} {row : List Str} (w : WOk names f row) (hn : names.length ≤ 6) : f.length ≤ 6 := by
  have := w.nd.length_le_of_subset (l₂ := names) w.sub
  rw [List.length_map] at this
  omega
theorem WOk.add {names : List Str} {f : Fd} {row : List Str} (w : WOk names f row) {x : Str} {p : List Str} (hx : fget f x = none) (hn : x ∈ names) (hp : p.length ≤ f.length) : WOk names (f ++ [(x, p)]) (row ++ [x]) where
  nd := by
    rw [List.map_append, List.nodup_append]
    refine ⟨w.nd, by simp, ?_⟩
    intro a ha b hb e
    have hb' : b = x := by simpa using hb
    rw [e, hb'] at ha
    have := fget_mem.mpr ha
    rw [hx] at this
    cases this
  sub := by
    intro y hy
    rw [List.map_append] at hy
    rcases List.mem_append.mp hy with h | h
    · exact w.sub y h
    · have : y = x := by simpa using h
      rw [this]; exact hn
  row := by
    intro y hy
    rcases List.mem_append.mp hy with h | h
    · have := w.row y h
      rw [fget_app]
      cases e : fget f y with
      | none => rw [e] at this; cases this
      | some q => rfl
    · have : y = x := by simpa using h
      rw [this, fget_app, hx, if_pos rfl]
      rfl
  len := by
    intro q hq
    rw [List.length_append, List.length_singleton]
    rcases List.mem_append.mp hq with h | h
    · have := w.len q h
      omega
    · rw [List.mem_singleton.mp h]
      show p.length < _
      omega
def Ext (f f' : Fd) : Prop := ∀ x p, fget f x = some p → fget f' x = some p
theorem Ext.add {f : Fd} {x : Str} {p : List Str} : Ext f (f ++ [(x, p)]) := fun y q h => by
  rw [fget_app, h]
theorem Ext.trans {a b c : Fd} (h1 : Ext a b) (h2 : Ext b c) : Ext a c := fun x p h => h2 x p (h1 x p h)
theorem way_in {g : G} (hm : MayOk (g.fn 0)) {names : List Str} (hn : names.length ≤ 6) {x0 x1 : Option SV} {rl : Option (List Str)} {here : Str} {p : List Str} : ∀ (mvs : List Mv) (f : Fd) (row : List Str) (x6 : Option SV) (k : Nat), (∀ m ∈ mvs, m.goal ∈ names) → WOk names f row → fget f here = some p → row.length + mvs.length ≤ 1000 →
    ∃ (f' : Fd) (row' : List Str) (x6' : Option SV), forL (bindT (.nm 6)) (exes g bWayIn) (mvs.map mvD) [x0, x1, some (.d (rolD rl)), some (.ownd false (fdD f)), some (.own (strsD row)), some (.d (.str here)), x6] k = .nx [x0, x1, some (.d (rolD rl)), some (.ownd false (fdD f')), some (.own (strsD row')), some (.d (.str here)), x6'] k ∧ WOk names f' row' ∧ Ext f f' ∧ f'.length + row.length = f.length + row'.length ∧ (∀ m ∈ mvs, m.beg = here → mayDo m rl = true → (fget f' m.goal).isSome) ∧ (∀ x q, fget f' x = some q → fget f x = some q ∨ q.length = p.length + 1)
  | [], f, row, x6, k, _, w, _, _ => ⟨f, row, x6, rfl, w, fun _ _ h => h, rfl, by simp, fun x q h => .inl h⟩
  | m :: l, f, row, x6, k, h1, w, h2, h3 => by
    rw [List.length_cons] at h3
    have hb := hm m rl
    have hc : ∀ m ∈ l, m.goal ∈ names := fun z hz => h1 z (List.mem_cons_of_mem _ hz)
    rw [List.map_cons]
    by_cases ha : m.beg = here ∧ fget f m.goal = none ∧ mayDo m rl = true
    · obtain ⟨a1, a2, a3⟩ := ha
      have hpl : p.length < f.length := w.len _ (fget_in h2)
      have hfl := w.few hn
      have w1 := w.add (x := m.goal) (p := p ++ [m.word]) a2 (h1 m (List.mem_cons_self ..)) (by simp; exact hpl)
      obtain ⟨f', row', x6', e1, e2, e3, e4, e5, e6⟩ := way_in hm hn (x0 := x0) (x1 := x1) (rl := rl) l (f ++ [(m.goal, p ++ [m.word])]) (row ++ [m.goal]) (some (.d (mvD m))) k hc w1 (Ext.add _ _ h2) (by simp; omega)
      refine ⟨f', row', x6', forL_nx rfl ?_ e1, e2, Ext.add.trans e3, ?_, ?_, ?_⟩
      · have z1 : binD .add (.tuple (strsD p)) (.tuple [.str m.word]) = some (.tuple (strsD (p ++ [m.word]))) := by
          have hz : lim ((strsD p).length + [PyData.str m.word].length) = true := by
            unfold lim strsD
            rw [List.length_map, List.length_singleton]
            exact decide_eq_true (by omega)
          show (if _ then _ else _) = _
          rw [if_pos hz]
          unfold strsD
          rw [List.map_append]
          rfl
        have z2 : lim ((fdD f).length + 1) = true := by
          unfold lim fdD
          rw [List.length_map]
          exact decide_eq_true (by omega)
        have z3 : lim ((strsD row).length + 1) = true := by
          unfold lim strsD
          rw [List.length_map]
          exact decide_eq_true (by omega)
        have z4 : strsD row ++ [.str m.goal] = strsD (row ++ [m.goal]) := by
          unfold strsD
          rw [List.map_append]
          rfl
        have z5 : keyOk false (.str m.goal) = true := rfl
        simp only [exes, exe, ev, evs, evi, go_ok, go_nx, bind_ok, pure_ok, of_some, at_ok, List.getElem?_cons_succ, List.getElem?_cons_zero, List.set_cons_succ, List.set_cons_zero, putS, setSV, kdOf, anyTr, lawIn, isTr, trI, List.length_cons, List.length_nil, wipeOk, List.all_cons, List.all_nil, wipeR, bindT, bindTs, Option.bind_some, isOmit, endOf, intOf, getL, getT, getK, getR, parOk, parS, ne_eq, not_false_eq_true, reduceCtorEq, decide_false, decide_true, Bool.or_false, Bool.false_or, Bool.or_true, Bool.true_or, Bool.and_true, Bool.true_and, Bool.not_true, Bool.not_false, Bool.false_eq_true, if_true, if_false, ite_true, ite_false, if_pos, Nat.reduceLT, Nat.reduceAdd, ↓reduceIte, tst, truD, Bool.and_self, Bool.and_false, Bool.false_and, Nat.lt_add_one, Nat.zero_lt_succ, Nat.lt_irrefl, bWayIn, mv_at.1, mv_at.2.1, mv_at.2.2.1, eqD_str, a1, fd_in, a2, a3, hb, fd_kind, fd_ix h2, z1, z2, z3, z4, z5, fd_put a2, Option.isSome_none, List.cons_append, List.nil_append, List.append_nil]
      · simp at e4
        omega
      · intro z hz b1 b2
        rcases List.mem_cons.mp hz with h | h
        · rw [h]
          have := e3 m.goal (p ++ [m.word]) (by rw [fget_app, a2, if_pos rfl])
          rw [this]
          rfl
        · exact e5 z h b1 b2
      · intro x q hq
        rcases e6 x q hq with h | h
        · rw [fget_app] at h
          cases e : fget f x with
          | some q' => rw [e] at h; exact .inl h
          | none =>
            rw [e] at h
            dsimp only at h
            by_cases hx : m.goal = x
            · rw [if_pos hx] at h
              cases h
              exact .inr (by simp)
            · rw [if_neg hx] at h
              cases h
        · exact .inr h
    · obtain ⟨f', row', x6', e1, e2, e3, e4, e5, e6⟩ := way_in hm hn (x0 := x0) (x1 := x1) (rl := rl) l f row (some (.d (mvD m))) k hc w h2 (by omega)
      refine ⟨f', row', x6', forL_nx rfl ?_ e1, e2, e3, e4, ?_, e6⟩
      · by_cases a1 : m.beg = here
        · cases a2 : fget f m.goal with
          | some q =>
            simp only [exes, exe, ev, evs, evi, go_ok, go_nx, bind_ok, pure_ok, of_some, at_ok, List.getElem?_cons_succ, List.getElem?_cons_zero, List.set_cons_succ, List.set_cons_zero, putS, setSV, kdOf, anyTr, lawIn, isTr, trI, List.length_cons, List.length_nil, wipeOk, List.all_cons, List.all_nil, wipeR, bindT, bindTs, Option.bind_some, isOmit, endOf, intOf, getL, getT, getK, getR, parOk, parS, ne_eq, not_false_eq_true, reduceCtorEq, decide_false, decide_true, Bool.or_false, Bool.false_or, Bool.or_true, Bool.true_or, Bool.and_true, Bool.true_and, Bool.not_true, Bool.not_false, Bool.false_eq_true, if_true, if_false, ite_true, ite_false, if_pos, Nat.reduceLT, Nat.reduceAdd, ↓reduceIte, tst, truD, Bool.and_self, Bool.and_false, Bool.false_and, Nat.lt_add_one, Nat.zero_lt_succ, Nat.lt_irrefl, bWayIn, mv_at.1, mv_at.2.1, mv_at.2.2.1, eqD_str, a1, fd_in, a2, hb, fd_kind, Option.isSome_some, List.cons_append, List.nil_append, List.append_nil]
          | none =>
            have a3 : mayDo m rl = false := by
              cases h : mayDo m rl with
              | false => rfl
              | true => exact absurd ⟨a1, a2, h⟩ ha
            simp only [exes, exe, ev, evs, evi, go_ok, go_nx, bind_ok, pure_ok, of_some, at_ok, List.getElem?_cons_succ, List.getElem?_cons_zero, List.set_cons_succ, List.set_cons_zero, putS, setSV, kdOf, anyTr, lawIn, isTr, trI, List.length_cons, List.length_nil, wipeOk, List.all_cons, List.all_nil, wipeR, bindT, bindTs, Option.bind_some, isOmit, endOf, intOf, getL, getT, getK, getR, parOk, parS, ne_eq, not_false_eq_true, reduceCtorEq, decide_false, decide_true, Bool.or_false, Bool.false_or, Bool.or_true, Bool.true_or, Bool.and_true, Bool.true_and, Bool.not_true, Bool.not_false, Bool.false_eq_true, if_true, if_false, ite_true, ite_false, if_pos, Nat.reduceLT, Nat.reduceAdd, ↓reduceIte, tst, truD, Bool.and_self, Bool.and_false, Bool.false_and, Nat.lt_add_one, Nat.zero_lt_succ, Nat.lt_irrefl, bWayIn, mv_at.1, mv_at.2.1, mv_at.2.2.1, eqD_str, a1, fd_in, a2, a3, hb, fd_kind, Option.isSome_none, List.cons_append, List.nil_append, List.append_nil]
        · simp only [exes, exe, ev, evs, evi, go_ok, go_nx, bind_ok, pure_ok, of_some, at_ok, List.getElem?_cons_succ, List.getElem?_cons_zero, List.set_cons_succ, List.set_cons_zero, putS, setSV, kdOf, anyTr, lawIn, isTr, trI, List.length_cons, List.length_nil, wipeOk, List.all_cons, List.all_nil, wipeR, bindT, bindTs, Option.bind_some, isOmit, endOf, intOf, getL, getT, getK, getR, parOk, parS, ne_eq, not_false_eq_true, reduceCtorEq, decide_false, decide_true, Bool.or_false, Bool.false_or, Bool.or_true, Bool.true_or, Bool.and_true, Bool.true_and, Bool.not_true, Bool.not_false, Bool.false_eq_true, if_true, if_false, ite_true, ite_false, if_pos, Nat.reduceLT, Nat.reduceAdd, ↓reduceIte, tst, truD, Bool.and_self, Bool.and_false, Bool.false_and, Nat.lt_add_one, Nat.zero_lt_succ, Nat.lt_irrefl, bWayIn, mv_at.1, mv_at.2.1, mv_at.2.2.1, eqD_str, a1]
      · intro z hz b1 b2
        rcases List.mem_cons.mp hz with h | h
        · rw [h] at b1 b2 ⊢
          cases a2 : fget f m.goal with
          | some q => rw [e3 _ _ a2]; rfl
          | none => exact absurd ⟨b1, a2, b2⟩ ha
        · exact e5 z h b1 b2
end Y

namespace Y
open PySem PySem.W PySem.Spec PyProof.Rows L2
/-! ### ways_from, whole -/
def bWayOut : Ss := (.cons (.star (.cons (.nm 5) .nil) 4 true (.var 4))
      (.cons (.forr (.nm 6) (.tup (.ix (.var 0) (.cst (.int 1)))) bWayIn)
      .nil))
def bWays : Ss :=
      (.cons (.par [(3, true), (4, true)] (.cons (.dct (.cons (.var 1) (.cons (.tup .nil) .nil))) (.cons (.lst (.cons (.var 1) .nil)) .nil)))
      (.cons (.whl (.var 4) bWayOut)
      (.cons (.ret (.var 3))
      .nil)))
theorem way_turn {g : G} (hm : MayOk (g.fn 0)) {names : List Str} (hn : names.length ≤ 6) {fl : Flow} (hfl : fl.moves.length ≤ 18) (hg : ∀ m ∈ fl.moves, m.goal ∈ names) {x1 : Option SV} {rl : Option (List Str)} {here : Str} {p : List Str} {f : Fd} {row : List Str} {x5 x6 : Option SV} {k : Nat} (w : WOk names f (here :: row)) (h2 : fget f here = some p) (h3 : row.length ≤ 900) :
    ∃ (f' : Fd) (row' : List Str) (x6' : Option SV), exes g bWayOut [some (.d (flD fl)), x1, some (.d (rolD rl)), some (.ownd false (fdD f)), some (.own (strsD (here :: row))), x5, x6] k = .nx [some (.d (flD fl)), x1, some (.d (rolD rl)), some (.ownd false (fdD f')), some (.own (strsD row')), some (.d (.str here)), x6'] k ∧ WOk names f' row' ∧ Ext f f' ∧ f'.length + row.length = f.length + row'.length ∧ (∀ m ∈ fl.moves, m.beg = here → mayDo m rl = true → (fget f' m.goal).isSome) ∧ (∀ x q, fget f' x = some q → fget f x = some q ∨ q.length = p.length + 1) := by
  have w' : WOk names f row := ⟨w.nd, w.sub, fun x hx => w.row x (List.mem_cons_of_mem _ hx), w.len⟩
  obtain ⟨f', row', x6', e1, e2⟩ := way_in hm hn (x0 := some (.d (flD fl))) (x1 := x1) (rl := rl) fl.moves f row x6 k hg w' h2 (by omega)
  refine ⟨f', row', x6', ?_, e2⟩
  have s1 : exe g (.star (.cons (.nm 5) .nil) 4 true (.var 4)) [some (.d (flD fl)), x1, some (.d (rolD rl)), some (.ownd false (fdD f)), some (.own (strsD (here :: row))), x5, x6] k = .nx [some (.d (flD fl)), x1, some (.d (rolD rl)), some (.ownd false (fdD f)), some (.own (strsD row)), some (.d (.str here)), x6] k := by
    unfold exe
    rw [show ev g (.var 4) [some (.d (flD fl)), x1, some (.d (rolD rl)), some (.ownd false (fdD f)), some (.own (strsD (here :: row))), x5, x6] k = .ok (.list (strsD (here :: row)), k) from rfl, go_ok]
    unfold starS
    rw [show seqOf (.list (strsD (here :: row))) = some (strsD (here :: row)) from rfl]
    dsimp only
    rw [if_pos (show (Tgs.cons (.nm 5) .nil).len ≤ (strsD (here :: row)).length from Nat.succ_le_succ (Nat.zero_le _))]
    rfl
  have s2 : exe g (.forr (.nm 6) (.tup (.ix (.var 0) (.cst (.int 1)))) bWayIn) [some (.d (flD fl)), x1, some (.d (rolD rl)), some (.ownd false (fdD f)), some (.own (strsD row)), some (.d (.str here)), x6] k = .nx [some (.d (flD fl)), x1, some (.d (rolD rl)), some (.ownd false (fdD f')), some (.own (strsD row')), some (.d (.str here)), x6'] k := by
    have q : evi g (.tup (.ix (.var 0) (.cst (.int 1)))) [some (.d (flD fl)), x1, some (.d (rolD rl)), some (.ownd false (fdD f)), some (.own (strsD row)), some (.d (.str here)), x6] k = .ok (fl.moves.map mvD, k) := by
      simp only [exes, exe, ev, evs, evi, go_ok, go_nx, bind_ok, pure_ok, of_some, at_ok, List.getElem?_cons_succ, List.getElem?_cons_zero, List.set_cons_succ, List.set_cons_zero, putS, setSV, kdOf, anyTr, lawIn, isTr, trI, List.length_cons, List.length_nil, wipeOk, List.all_cons, List.all_nil, wipeR, bindT, bindTs, Option.bind_some, isOmit, endOf, intOf, getL, getT, getK, getR, parOk, parS, ne_eq, not_false_eq_true, reduceCtorEq, decide_false, decide_true, Bool.or_false, Bool.false_or, Bool.or_true, Bool.true_or, Bool.and_true, Bool.true_and, Bool.not_true, Bool.not_false, Bool.false_eq_true, if_true, if_false, ite_true, ite_false, if_pos, Nat.reduceLT, Nat.reduceAdd, ↓reduceIte, tst, truD, Bool.and_self, Bool.and_false, Bool.false_and, Nat.lt_add_one, Nat.zero_lt_succ, Nat.lt_irrefl, fl_at.2]
    unfold exe
    rw [q]
    exact e1
  unfold bWayOut
  rw [exes_cons, s1, go_nx, exes_cons, s2, go_nx]
  rfl
theorem whl_t {c : Rho → Nat → R (D × Nat)} {body : Rho → Nat → Out} {n k k1 k2 : Nat} {ρ ρ2 : Rho} {x : D} {o : Out} (h1 : c ρ k = .ok (x, k1)) (h2 : truD x = some true) (h3 : body ρ k1 = .nx ρ2 k2) (h4 : whlL c body n ρ2 k2 = o) : whlL c body (n + 1) ρ k = o := by
  unfold whlL
  rw [h1, go_ok]
  unfold tst
  rw [h2]
  dsimp only
  rw [if_pos rfl, h3]
  exact h4
theorem whl_f {c : Rho → Nat → R (D × Nat)} {body : Rho → Nat → Out} {n k k1 : Nat} {ρ : Rho} {x : D} (h1 : c ρ k = .ok (x, k1)) (h2 : truD x = some false) : whlL c body (n + 1) ρ k = .nx ρ k1 := by
  unfold whlL
  rw [h1, go_ok]
  unfold tst
  rw [h2]
  rfl
theorem way_out {g : G} (hm : MayOk (g.fn 0)) {names : List Str} (hn : names.length ≤ 6) {fl : Flow} (hfl : fl.moves.length ≤ 18) (hg : ∀ m ∈ fl.moves, m.goal ∈ names) {x1 : Option SV} {rl : Option (List Str)} {k : Nat} : ∀ (n : Nat) (f : Fd) (row : List Str) (x5 x6 : Option SV), WOk names f row → row.length + 6 < n + f.length → row.length ≤ f.length →
    ∃ (f' : Fd) (x5' x6' : Option SV), whlL (ev g (.var 4)) (exes g bWayOut) n [some (.d (flD fl)), x1, some (.d (rolD rl)), some (.ownd false (fdD f)), some (.own (strsD row)), x5, x6] k = .nx [some (.d (flD fl)), x1, some (.d (rolD rl)), some (.ownd false (fdD f')), some (.own []), x5', x6'] k ∧ WOk names f' [] ∧ Ext f f'
  | 0, f, row, _, _, w, h, _ => by
    have := w.few hn
    omega
  | n + 1, f, [], x5, x6, w, h, _ => ⟨f, x5, x6, whl_f rfl rfl, w, fun _ _ h => h⟩
  | n + 1, f, here :: row, x5, x6, w, h, hr => by
    rw [List.length_cons] at h hr
    have := w.row here (List.mem_cons_self ..)
    have hf0 := w.few hn
    obtain ⟨p, hp⟩ := Option.isSome_iff_exists.mp this
    obtain ⟨f1, row1, y6, e1, e2, e3, e4, _⟩ := way_turn hm hn hfl hg (x1 := x1) (rl := rl) (x5 := x5) (x6 := x6) (k := k) w hp (by omega)
    have hf := e2.few hn
    obtain ⟨f2, z5, z6, c1, c2, c3⟩ := way_out hm hn hfl hg (x1 := x1) (rl := rl) (k := k) n f1 row1 (some (.d (.str here))) y6 e2 (by omega) (by omega)
    exact ⟨f2, z5, z6, whl_t rfl rfl e1 c1, c2, e3.trans c3⟩
/-- what ways_from tells -/
structure WaysOk (names : List Str) (fl : Flow) (st : Str) (rl : Option (List Str)) (f : Fd) : Prop where
  ok : WOk names f []
  here : fget f st = some []
  one : ∀ m ∈ fl.moves, m.beg = st → mayDo m rl = true → ∃ p, fget f m.goal = some p ∧ p.length ≤ 1
theorem ways_ok {g : G} (hm : MayOk (g.fn 0)) (hfu : g.fuel = 1000) {fl : Flow} (ho : FlowOk fl) {st : Str} (hst : st ∈ fl.states.map (·.1)) {rl : Option (List Str)} : ∃ f, WaysOk (fl.states.map (·.1)) fl st rl f ∧ runD g 3 4 bWays [flD fl, .str st, rolD rl] = .ok (.dict (fdD f)) := by
  have hn : (fl.states.map (·.1)).length ≤ 6 := by rw [List.length_map]; exact ho.few
  have hg : ∀ m ∈ fl.moves, m.goal ∈ fl.states.map (·.1) := fun m h => (ho.mv m h).2.1
  have w0 : WOk (fl.states.map (·.1)) [(st, [])] [st] := ⟨by simp, by simpa using hst, by simp [fget], by simp⟩
  have h0 : fget [(st, ([] : List Str))] st = some [] := if_pos rfl
  obtain ⟨f1, row1, y6, e1, e2, e3, e4, e5, e6⟩ := way_turn hm hn ho.mfew hg (x1 := some (.d (.str st))) (rl := rl) (x5 := none) (x6 := none) (k := 0) w0 h0 (by simp)
  have hf := e2.few hn
  simp at e4
  obtain ⟨f2, z5, z6, c1, c2, c3⟩ := way_out hm hn ho.mfew hg (x1 := some (.d (.str st))) (rl := rl) (k := 0) 999 f1 row1 (some (.d (.str st))) y6 e2 (by omega) (by omega)
  refine ⟨f2, ⟨c2, c3 _ _ (e3 _ _ h0), fun m h1 h2 h3 => ?_⟩, ?_⟩
  · obtain ⟨p, hp⟩ := Option.isSome_iff_exists.mp (e5 m h1 h2 h3)
    refine ⟨p, c3 _ _ hp, ?_⟩
    rcases e6 _ _ hp with h | h
    · unfold fget at h
      by_cases e : st = m.goal
      · rw [if_pos e] at h
        cases h
        exact Nat.zero_le _
      · rw [if_neg e] at h
        cases h
    · rw [h]
      exact Nat.le_refl _
  · refine runD_rt rfl rfl (k := 0) ?_
    show exes g bWays [some (.d (flD fl)), some (.d (.str st)), some (.d (rolD rl)), none, none, none, none] 0 = _
    have s1 : exe g (.par [(3, true), (4, true)] (.cons (.dct (.cons (.var 1) (.cons (.tup .nil) .nil))) (.cons (.lst (.cons (.var 1) .nil)) .nil))) [some (.d (flD fl)), some (.d (.str st)), some (.d (rolD rl)), none, none, none, none] 0 = .nx [some (.d (flD fl)), some (.d (.str st)), some (.d (rolD rl)), some (.ownd false (fdD [(st, [])])), some (.own (strsD [st])), none, none] 0 := rfl
    have s2 : exe g (.whl (.var 4) bWayOut) [some (.d (flD fl)), some (.d (.str st)), some (.d (rolD rl)), some (.ownd false (fdD [(st, [])])), some (.own (strsD [st])), none, none] 0 = .nx [some (.d (flD fl)), some (.d (.str st)), some (.d (rolD rl)), some (.ownd false (fdD f2)), some (.own []), z5, z6] 0 := by
      unfold exe
      rw [hfu]
      exact whl_t rfl rfl e1 c1
    unfold bWays
    rw [exes_cons, s1, go_nx, exes_cons, s2, go_nx, exes_cons]
    simp only [exes, exe, ev, evs, evi, go_ok, go_nx, bind_ok, pure_ok, of_some, at_ok, List.getElem?_cons_succ, List.getElem?_cons_zero, List.set_cons_succ, List.set_cons_zero, putS, setSV, kdOf, anyTr, lawIn, isTr, trI, List.length_cons, List.length_nil, wipeOk, List.all_cons, List.all_nil, wipeR, bindT, bindTs, Option.bind_some, isOmit, endOf, intOf, getL, getT, getK, getR, parOk, parS, ne_eq, not_false_eq_true, reduceCtorEq, decide_false, decide_true, Bool.or_false, Bool.false_or, Bool.or_true, Bool.true_or, Bool.and_true, Bool.true_and, Bool.not_true, Bool.not_false, Bool.false_eq_true, if_true, if_false, ite_true, ite_false, if_pos, Nat.reduceLT, Nat.reduceAdd, ↓reduceIte, tst, truD, Bool.and_self, Bool.and_false, Bool.false_and, Nat.lt_add_one, Nat.zero_lt_succ, Nat.lt_irrefl, fd_kind]
    rfl
end Y

namespace Y
open PySem PySem.W PySem.Spec PyProof.Rows L2
/-! ### way, reach -/
def nmsOf (fl : Flow) : List Str := fl.states.map (·.1)
def WaysFn (f : List D → R D) : Prop := ∀ fl st rl, FlowOk fl → st ∈ nmsOf fl → ∃ F, WaysOk (nmsOf fl) fl st rl F ∧ f [flD fl, .str st, rolD rl] = .ok (.dict (fdD F))
def pO : Option (List Str) → D
  | none => .none
  | some p => .tuple (strsD p)
def bWay : Ss :=
      (.cons (.ret (.mt .get (.call 0 (.cons (.var 0) (.cons (.var 1) (.cons (.var 3) .nil))) .nil) (.cons (.var 2) (.cons (.cst .none) .nil))))
      .nil)
theorem fd_mt {f : Fd} {x : Str} : mtD .get (.dict (fdD f)) [.str x, .none] = some (pO (fget f x)) := by
  show (if keyOk (kindD (fdD f)) (.str x) = true then _ else _) = _
  rw [fd_kind, show keyOk false (.str x) = true from rfl, if_pos rfl, fd_get]
  cases fget f x <;> rfl
theorem way_ok {g : G} (hw : WaysFn (g.fn 0)) {fl : Flow} (ho : FlowOk fl) {st : Str} (hst : st ∈ nmsOf fl) {rl : Option (List Str)} : ∃ F, WaysOk (nmsOf fl) fl st rl F ∧ ∀ z, runD g 4 0 bWay [flD fl, .str st, .str z, rolD rl] = .ok (pO (fget F z)) := by
  obtain ⟨F, h, e⟩ := hw fl st rl ho hst
  refine ⟨F, h, fun z => runD_rt rfl rfl (k := 0) ?_⟩
  show exes g bWay [some (.d (flD fl)), some (.d (.str st)), some (.d (.str z)), some (.d (rolD rl))] 0 = _
  simp only [exes, exe, ev, evs, evi, go_ok, go_nx, bind_ok, pure_ok, of_some, at_ok, List.getElem?_cons_succ, List.getElem?_cons_zero, List.set_cons_succ, List.set_cons_zero, putS, setSV, kdOf, anyTr, lawIn, isTr, trI, List.length_cons, List.length_nil, wipeOk, List.all_cons, List.all_nil, wipeR, bindT, bindTs, Option.bind_some, isOmit, endOf, intOf, getL, getT, getK, getR, parOk, parS, ne_eq, not_false_eq_true, reduceCtorEq, decide_false, decide_true, Bool.or_false, Bool.false_or, Bool.or_true, Bool.true_or, Bool.and_true, Bool.true_and, Bool.not_true, Bool.not_false, Bool.false_eq_true, if_true, if_false, ite_true, ite_false, if_pos, Nat.reduceLT, Nat.reduceAdd, ↓reduceIte, tst, truD, Bool.and_self, Bool.and_false, Bool.false_and, Nat.lt_add_one, Nat.zero_lt_succ, Nat.lt_irrefl, bWay, e, fd_mt, rcv, List.cons_append, List.nil_append, List.append_nil]
  rfl
def bReach : Ss :=
      (.cons (.set 3 false (.call 0 (.cons (.var 0) (.cons (.var 1) (.cons (.var 2) .nil))) .nil))
      (.cons (.ret (.bi .tuple (.comp [4, 5] (.tp (.cons (.nm 4) (.cons (.nm 5) .nil))) (.tup (.ix (.var 0) (.cst (.int 0)))) (.cmp .In (.var 4) (.var 3)) (.var 4))))
      .nil))
theorem reach_comp {g : G} {x0 x1 x2 : Option SV} {F : Fd} : ∀ (l : List (Str × Str)) (k : Nat), compL (fun x => bindT (.tp (.cons (.nm 4) (.cons (.nm 5) .nil))) x [x0, x1, x2, some (.d (.dict (fdD F))), none, none]) (fun ρ k => tstR (ev g (.cmp .In (.var 4) (.var 3)) ρ k)) (fun ρ k => if kdOf ρ (.var 4) = .tr then R.no else (ev g (.var 4) ρ k).nox) (l.map pairD) k = .ok (strsD ((l.map (·.1)).filter fun x => (fget F x).isSome), k)
  | [], k => rfl
  | q :: l, k => by
    rw [List.map_cons, List.map_cons]
    cases h : (fget F q.1).isSome with
    | true =>
      rw [List.filter_cons_of_pos (by simpa using h)]
      refine compL_t (k1 := k) (k2 := k) rfl ?_ ?_ (reach_comp l k)
      · simp only [exes, exe, ev, evs, evi, go_ok, go_nx, bind_ok, pure_ok, of_some, at_ok, List.getElem?_cons_succ, List.getElem?_cons_zero, List.set_cons_succ, List.set_cons_zero, putS, setSV, kdOf, anyTr, lawIn, isTr, trI, List.length_cons, List.length_nil, wipeOk, List.all_cons, List.all_nil, wipeR, bindT, bindTs, Option.bind_some, isOmit, endOf, intOf, getL, getT, getK, getR, parOk, parS, ne_eq, not_false_eq_true, reduceCtorEq, decide_false, decide_true, Bool.or_false, Bool.false_or, Bool.or_true, Bool.true_or, Bool.and_true, Bool.true_and, Bool.not_true, Bool.not_false, Bool.false_eq_true, if_true, if_false, ite_true, ite_false, if_pos, Nat.reduceLT, Nat.reduceAdd, ↓reduceIte, tst, truD, Bool.and_self, Bool.and_false, Bool.false_and, Nat.lt_add_one, Nat.zero_lt_succ, Nat.lt_irrefl, tstR, fd_in', h, R.nox]
      · simp only [exes, exe, ev, evs, evi, go_ok, go_nx, bind_ok, pure_ok, of_some, at_ok, List.getElem?_cons_succ, List.getElem?_cons_zero, List.set_cons_succ, List.set_cons_zero, putS, setSV, kdOf, anyTr, lawIn, isTr, trI, List.length_cons, List.length_nil, wipeOk, List.all_cons, List.all_nil, wipeR, bindT, bindTs, Option.bind_some, isOmit, endOf, intOf, getL, getT, getK, getR, parOk, parS, ne_eq, not_false_eq_true, reduceCtorEq, decide_false, decide_true, Bool.or_false, Bool.false_or, Bool.or_true, Bool.true_or, Bool.and_true, Bool.true_and, Bool.not_true, Bool.not_false, Bool.false_eq_true, if_true, if_false, ite_true, ite_false, if_pos, Nat.reduceLT, Nat.reduceAdd, ↓reduceIte, tst, truD, Bool.and_self, Bool.and_false, Bool.false_and, Nat.lt_add_one, Nat.zero_lt_succ, Nat.lt_irrefl, R.nox]
    | false =>
      rw [List.filter_cons_of_neg (by simp [h])]
      refine compL_f (k1 := k) rfl ?_ (reach_comp l k)
      simp only [exes, exe, ev, evs, evi, go_ok, go_nx, bind_ok, pure_ok, of_some, at_ok, List.getElem?_cons_succ, List.getElem?_cons_zero, List.set_cons_succ, List.set_cons_zero, putS, setSV, kdOf, anyTr, lawIn, isTr, trI, List.length_cons, List.length_nil, wipeOk, List.all_cons, List.all_nil, wipeR, bindT, bindTs, Option.bind_some, isOmit, endOf, intOf, getL, getT, getK, getR, parOk, parS, ne_eq, not_false_eq_true, reduceCtorEq, decide_false, decide_true, Bool.or_false, Bool.false_or, Bool.or_true, Bool.true_or, Bool.and_true, Bool.true_and, Bool.not_true, Bool.not_false, Bool.false_eq_true, if_true, if_false, ite_true, ite_false, if_pos, Nat.reduceLT, Nat.reduceAdd, ↓reduceIte, tst, truD, Bool.and_self, Bool.and_false, Bool.false_and, Nat.lt_add_one, Nat.zero_lt_succ, Nat.lt_irrefl, tstR, fd_in', h, R.nox]
theorem reach_ok {g : G} (hw : WaysFn (g.fn 0)) {fl : Flow} (ho : FlowOk fl) {st : Str} (hst : st ∈ nmsOf fl) {rl : Option (List Str)} : ∃ F, WaysOk (nmsOf fl) fl st rl F ∧ runD g 3 3 bReach [flD fl, .str st, rolD rl] = .ok (.tuple (strsD ((nmsOf fl).filter fun x => (fget F x).isSome))) := by
  obtain ⟨F, h, e⟩ := hw fl st rl ho hst
  refine ⟨F, h, runD_rt rfl rfl (k := 0) ?_⟩
  show exes g bReach [some (.d (flD fl)), some (.d (.str st)), some (.d (rolD rl)), none, none, none] 0 = _
  have s1 : exe g (.set 3 false (.call 0 (.cons (.var 0) (.cons (.var 1) (.cons (.var 2) .nil))) .nil)) [some (.d (flD fl)), some (.d (.str st)), some (.d (rolD rl)), none, none, none] 0 = .nx [some (.d (flD fl)), some (.d (.str st)), some (.d (rolD rl)), some (.d (.dict (fdD F))), none, none] 0 := by
    simp only [exes, exe, ev, evs, evi, go_ok, go_nx, bind_ok, pure_ok, of_some, at_ok, List.getElem?_cons_succ, List.getElem?_cons_zero, List.set_cons_succ, List.set_cons_zero, putS, setSV, kdOf, anyTr, lawIn, isTr, trI, List.length_cons, List.length_nil, wipeOk, List.all_cons, List.all_nil, wipeR, bindT, bindTs, Option.bind_some, isOmit, endOf, intOf, getL, getT, getK, getR, parOk, parS, ne_eq, not_false_eq_true, reduceCtorEq, decide_false, decide_true, Bool.or_false, Bool.false_or, Bool.or_true, Bool.true_or, Bool.and_true, Bool.true_and, Bool.not_true, Bool.not_false, Bool.false_eq_true, if_true, if_false, ite_true, ite_false, if_pos, Nat.reduceLT, Nat.reduceAdd, ↓reduceIte, tst, truD, Bool.and_self, Bool.and_false, Bool.false_and, Nat.lt_add_one, Nat.zero_lt_succ, Nat.lt_irrefl, e, List.cons_append, List.nil_append, List.append_nil]
  have e4 : evi g (.tup (.ix (.var 0) (.cst (.int 0)))) [some (.d (flD fl)), some (.d (.str st)), some (.d (rolD rl)), some (.d (.dict (fdD F))), none, none] 0 = .ok (fl.states.map pairD, 0) := by
    simp only [exes, exe, ev, evs, evi, go_ok, go_nx, bind_ok, pure_ok, of_some, at_ok, List.getElem?_cons_succ, List.getElem?_cons_zero, List.set_cons_succ, List.set_cons_zero, putS, setSV, kdOf, anyTr, lawIn, isTr, trI, List.length_cons, List.length_nil, wipeOk, List.all_cons, List.all_nil, wipeR, bindT, bindTs, Option.bind_some, isOmit, endOf, intOf, getL, getT, getK, getR, parOk, parS, ne_eq, not_false_eq_true, reduceCtorEq, decide_false, decide_true, Bool.or_false, Bool.false_or, Bool.or_true, Bool.true_or, Bool.and_true, Bool.true_and, Bool.not_true, Bool.not_false, Bool.false_eq_true, if_true, if_false, ite_true, ite_false, if_pos, Nat.reduceLT, Nat.reduceAdd, ↓reduceIte, tst, truD, Bool.and_self, Bool.and_false, Bool.false_and, Nat.lt_add_one, Nat.zero_lt_succ, Nat.lt_irrefl, fl_at.1]
  have e5 : ev g (.comp [4, 5] (.tp (.cons (.nm 4) (.cons (.nm 5) .nil))) (.tup (.ix (.var 0) (.cst (.int 0)))) (.cmp .In (.var 4) (.var 3)) (.var 4)) [some (.d (flD fl)), some (.d (.str st)), some (.d (rolD rl)), some (.d (.dict (fdD F))), none, none] 0 = .ok (.list (strsD ((nmsOf fl).filter fun x => (fget F x).isSome)), 0) := by
    unfold ev
    rw [show wipeOk [some (.d (flD fl)), some (.d (.str st)), some (.d (rolD rl)), some (.d (.dict (fdD F))), none, none] [4, 5] = true from rfl, e4, bind_ok]
    dsimp only
    rw [show wipeR [some (.d (flD fl)), some (.d (.str st)), some (.d (rolD rl)), some (.d (.dict (fdD F))), none, none] [4, 5] = [some (.d (flD fl)), some (.d (.str st)), some (.d (rolD rl)), some (.d (.dict (fdD F))), none, none] from rfl, reach_comp, bind_ok]
    rfl
  unfold bReach
  rw [exes_cons, s1, go_nx, exes_cons]
  unfold exe ev
  rw [e5, bind_ok]
  rfl
/-! all_roles -/
def bAll : Ss :=
      (.cons (.ret (.sset2 [1, 2] (.nm 1) (.tup (.ix (.var 0) (.cst (.int 1)))) (.cst (.bool true)) [2] (.nm 2) (.tup (.ix (.var 1) (.cst (.int 3)))) (.cst (.bool true)) (.var 2)))
      .nil)
theorem role_comp {g : G} {x0 x1 : Option SV} : ∀ (l : List Str) (k : Nat), compL (fun x => bindT (.nm 2) x [x0, x1, none]) (fun ρ k => tstR (ev g (.cst (.bool true)) ρ k)) (fun ρ k => if kdOf ρ (.var 2) = .tr then R.no else (ev g (.var 2) ρ k).nox) (strsD l) k = .ok (strsD l, k)
  | [], k => rfl
  | a :: l, k => by
    refine compL_t (k1 := k) (k2 := k) rfl rfl ?_ (role_comp l k)
    simp only [exes, exe, ev, evs, evi, go_ok, go_nx, bind_ok, pure_ok, of_some, at_ok, List.getElem?_cons_succ, List.getElem?_cons_zero, List.set_cons_succ, List.set_cons_zero, putS, setSV, kdOf, anyTr, lawIn, isTr, trI, List.length_cons, List.length_nil, wipeOk, List.all_cons, List.all_nil, wipeR, bindT, bindTs, Option.bind_some, isOmit, endOf, intOf, getL, getT, getK, getR, parOk, parS, ne_eq, not_false_eq_true, reduceCtorEq, decide_false, decide_true, Bool.or_false, Bool.false_or, Bool.or_true, Bool.true_or, Bool.and_true, Bool.true_and, Bool.not_true, Bool.not_false, Bool.false_eq_true, if_true, if_false, ite_true, ite_false, if_pos, Nat.reduceLT, Nat.reduceAdd, ↓reduceIte, tst, truD, Bool.and_self, Bool.and_false, Bool.false_and, Nat.lt_add_one, Nat.zero_lt_succ, Nat.lt_irrefl, R.nox]
theorem comp2L_t {bnd : D → Option Rho} {t : Rho → Nat → R (Bool × Nat)} {inner : Rho → Nat → R (List D × Nat)} {x : D} {l r1 r2 : List D} {ρ : Rho} {k k1 k2 k3 : Nat} (h1 : bnd x = some ρ) (h2 : t ρ k = .ok (true, k1)) (h3 : inner ρ k1 = .ok (r1, k2)) (h4 : comp2L bnd t inner l k2 = .ok (r2, k3)) : comp2L bnd t inner (x :: l) k = .ok (r1 ++ r2, k3) := by
  unfold comp2L
  rw [h1]
  dsimp only
  rw [h2, bind_ok]
  dsimp only
  rw [if_pos rfl, h3, bind_ok]
  dsimp only
  rw [h4, bind_ok]
  rfl
def rolesIn : List Mv → List Str
  | [] => []
  | m :: l => m.roles ++ rolesIn l
theorem all_comp {g : G} {x0 : Option SV} : ∀ (mvs : List Mv) (k : Nat), comp2L (fun x => bindT (.nm 1) x [x0, none, none]) (fun ρ k => tstR (ev g (.cst (.bool true)) ρ k)) (fun ρ k => if !wipeOk ρ [2] || trI ρ (.tup (.ix (.var 1) (.cst (.int 3)))) then R.no else (evi g (.tup (.ix (.var 1) (.cst (.int 3)))) ρ k).nox >>= fun q =>
      compL (fun x => bindT (.nm 2) x (wipeR ρ [2])) (fun ρ k => tstR (ev g (.cst (.bool true)) ρ k)) (fun ρ k => if kdOf ρ (.var 2) = .tr then R.no else (ev g (.var 2) ρ k).nox) q.1 q.2) (mvs.map mvD) k = .ok (strsD (rolesIn mvs), k)
  | [], k => rfl
  | m :: l, k => by
    have e : strsD (rolesIn (m :: l)) = strsD m.roles ++ strsD (rolesIn l) := List.map_append
    rw [List.map_cons, e]
    refine comp2L_t (k1 := k) (k2 := k) rfl rfl ?_ (all_comp l k)
    exact role_comp (x0 := x0) (x1 := some (.d (mvD m))) m.roles k
theorem strsOf_strsD : ∀ {l : List Str}, strsOf (strsD l) = some l
  | [] => rfl
  | a :: l => by
    show (strOf (.str a) >>= fun i => strsOf (strsD l) >>= fun r => pure (i :: r)) = _
    rw [strsOf_strsD]
    rfl
theorem dedS_len {xs : List Str} : (dedS xs).length ≤ xs.length := by
  unfold dedS
  have : ∀ (xs l : List Str), (xs.foldl (fun l x => if (l.any fun y => decide (y = x)) then l else l ++ [x]) l).length ≤ l.length + xs.length := by
    intro xs
    induction xs with
    | nil => intro l; exact Nat.le_refl _
    | cons x xs ih =>
      intro l
      rw [List.foldl_cons, List.length_cons]
      refine Nat.le_trans (ih _) ?_
      split
      · omega
      · rw [List.length_append, List.length_singleton]
        omega
  simpa using this xs []
theorem insStr_len {x : Str} : ∀ {l : List Str}, (insStr x l).length = l.length + 1
  | [] => rfl
  | y :: l => by
    unfold insStr
    split
    · rw [List.length_cons, insStr_len]; rfl
    · rfl
theorem sortStr_len : ∀ {l : List Str}, (sortStr l).length = l.length
  | [] => rfl
  | y :: l => by
    show (insStr y (sortStr l)).length = _
    rw [insStr_len, sortStr_len]
    rfl
theorem rolesIn_len {fl : Flow} (ho : FlowOk fl) : (rolesIn fl.moves).length ≤ 54 := by
  have h : ∀ l : List Mv, (∀ m ∈ l, m.roles.length ≤ 3) → (rolesIn l).length ≤ 3 * l.length := by
    intro l
    induction l with
    | nil => intro _; exact Nat.le_refl _
    | cons m l ih =>
      intro h
      have h1 := h m (List.mem_cons_self ..)
      have h2 := ih fun z hz => h z (List.mem_cons_of_mem _ hz)
      show (m.roles ++ rolesIn l).length ≤ _
      rw [List.length_append, List.length_cons]
      omega
  have := h fl.moves fun m hm => (ho.mv m hm).2.2.2.2.2
  have := ho.mfew
  omega
theorem all_ok {g : G} {fl : Flow} (ho : FlowOk fl) : ∃ rs : List Str, rs.length < 64 ∧ runD g 1 2 bAll [flD fl] = .ok (.list (strsD rs)) := by
  have hl := Nat.le_trans (dedS_len (xs := rolesIn fl.moves)) (rolesIn_len ho)
  refine ⟨sortStr (dedS (rolesIn fl.moves)), by rw [sortStr_len]; omega, runD_rt rfl rfl (k := 0) ?_⟩
  show exes g bAll [some (.d (flD fl)), none, none] 0 = _
  have e4 : evi g (.tup (.ix (.var 0) (.cst (.int 1)))) [some (.d (flD fl)), none, none] 0 = .ok (fl.moves.map mvD, 0) := by
    simp only [exes, exe, ev, evs, evi, go_ok, go_nx, bind_ok, pure_ok, of_some, at_ok, List.getElem?_cons_succ, List.getElem?_cons_zero, List.set_cons_succ, List.set_cons_zero, putS, setSV, kdOf, anyTr, lawIn, isTr, trI, List.length_cons, List.length_nil, wipeOk, List.all_cons, List.all_nil, wipeR, bindT, bindTs, Option.bind_some, isOmit, endOf, intOf, getL, getT, getK, getR, parOk, parS, ne_eq, not_false_eq_true, reduceCtorEq, decide_false, decide_true, Bool.or_false, Bool.false_or, Bool.or_true, Bool.true_or, Bool.and_true, Bool.true_and, Bool.not_true, Bool.not_false, Bool.false_eq_true, if_true, if_false, ite_true, ite_false, if_pos, Nat.reduceLT, Nat.reduceAdd, ↓reduceIte, tst, truD, Bool.and_self, Bool.and_false, Bool.false_and, Nat.lt_add_one, Nat.zero_lt_succ, Nat.lt_irrefl, fl_at.2]
  have e5 : ev g (.sset2 [1, 2] (.nm 1) (.tup (.ix (.var 0) (.cst (.int 1)))) (.cst (.bool true)) [2] (.nm 2) (.tup (.ix (.var 1) (.cst (.int 3)))) (.cst (.bool true)) (.var 2)) [some (.d (flD fl)), none, none] 0 = .ok (.list (strsD (sortStr (dedS (rolesIn fl.moves)))), 0) := by
    unfold ev
    rw [show wipeOk [some (.d (flD fl)), none, none] [1, 2] = true from rfl, e4, bind_ok]
    dsimp only
    rw [show wipeR [some (.d (flD fl)), none, none] [1, 2] = [some (.d (flD fl)), none, none] from rfl, all_comp]
    show (R.of (strsOf (strsD (rolesIn fl.moves))) >>= _) = _
    rw [strsOf_strsD, of_some, bind_ok]
    rw [if_pos (decide_eq_true (by omega))]
    rfl
  unfold bAll
  rw [exes_cons]
  unfold exe
  rw [e5]
  rfl
end Y

namespace Y
open PySem PySem.W PySem.Spec PyProof.Rows L2
/-! ### least_roles, from a state to itself -/
def bLeast1 : Ss := (.cons (.iff (.cmp .IsNot (.call 1 (.cons (.var 0) (.cons (.var 1) (.cons (.var 2) .nil))) (.cons (.var 6) .nil)) (.cst .none)) (.cons (.ret (.var 6))
      .nil) .nil)
      .nil)
def bLeast2 : Ss := (.cons (.forr (.nm 6) (.lst (.var 4)) bLeast1)
      (.cons (.set 4 false (.comp2 [6, 7] (.nm 6) (.lst (.var 4)) (.cst (.bool true)) [7] (.nm 7) (.lst (.var 3)) (.bop true (.cmp .Eq (.var 6) (.tup .nil)) (.cmp .Gt (.var 7) (.ix (.var 6) (.neg (.cst (.int 1)))))) (.bin .add (.var 6) (.tup (.cons (.var 7) .nil)))))
      .nil))
def bLeast : Ss :=
      (.cons (.par [(3, false), (4, false)] (.cons (.call 0 (.cons (.var 0) .nil) .nil) (.cons (.lst (.cons (.tup .nil) .nil)) .nil)))
      (.cons (.forr (.nm 5) (.rng (.bin .add (.bi .len (.var 3)) (.cst (.int 1)))) bLeast2)
      (.cons (.ret (.cst .none))
      .nil)))
theorem getR_ok {n : Int} (h0 : 0 ≤ n) (h1 : n ≤ 16777216) : getR (.int n) = some (rangeD n) := by
  unfold getR
  dsimp only
  rw [if_pos]
  have : (2 : Int) ^ 62 = 4611686018427387904 := by decide
  exact decide_eq_true (by omega)
theorem evi_rng {g : G} {e : E} {ρ : Rho} {k k1 : Nat} {n : Int} (h : ev g e ρ k = .ok (.int n, k1)) (h0 : 0 ≤ n) (h1 : n ≤ 16777216) : evi g (.rng e) ρ k = .ok (rangeD n, k1) := by
  unfold evi
  rw [h, bind_ok]
  dsimp only
  rw [getR_ok h0 h1]
  rfl
theorem least_ok {g : G} (ha : ∀ fl, FlowOk fl → ∃ rs : List Str, rs.length < 64 ∧ g.fn 0 [flD fl] = .ok (.list (strsD rs))) {fl : Flow} (ho : FlowOk fl) {st : Str} (hw : g.fn 1 [flD fl, .str st, .str st, .tuple []] = .ok (.tuple [])) : runD g 3 5 bLeast [flD fl, .str st, .str st] = .ok (.tuple []) := by
  obtain ⟨rs, hl, e⟩ := ha fl ho
  refine runD_rt rfl rfl (k := 0) ?_
  show exes g bLeast [some (.d (flD fl)), some (.d (.str st)), some (.d (.str st)), none, none, none, none, none] 0 = _
  have s1 : exe g (.par [(3, false), (4, false)] (.cons (.call 0 (.cons (.var 0) .nil) .nil) (.cons (.lst (.cons (.tup .nil) .nil)) .nil))) [some (.d (flD fl)), some (.d (.str st)), some (.d (.str st)), none, none, none, none, none] 0 = .nx [some (.d (flD fl)), some (.d (.str st)), some (.d (.str st)), some (.d (.list (strsD rs))), some (.d (.list [.tuple []])), none, none, none] 0 := by
    simp only [exes, exe, ev, evs, evi, go_ok, go_nx, bind_ok, pure_ok, of_some, at_ok, List.getElem?_cons_succ, List.getElem?_cons_zero, List.set_cons_succ, List.set_cons_zero, putS, setSV, kdOf, anyTr, lawIn, isTr, trI, List.length_cons, List.length_nil, wipeOk, List.all_cons, List.all_nil, wipeR, bindT, bindTs, Option.bind_some, isOmit, endOf, intOf, getL, getT, getK, getR, parOk, parS, ne_eq, not_false_eq_true, reduceCtorEq, decide_false, decide_true, Bool.or_false, Bool.false_or, Bool.or_true, Bool.true_or, Bool.and_true, Bool.true_and, Bool.not_true, Bool.not_false, Bool.false_eq_true, if_true, if_false, ite_true, ite_false, if_pos, Nat.reduceLT, Nat.reduceAdd, ↓reduceIte, tst, truD, Bool.and_self, Bool.and_false, Bool.false_and, Nat.lt_add_one, Nat.zero_lt_succ, Nat.lt_irrefl, e, List.append_nil]
  have hlen : biD .len (.list (strsD rs)) = some (.int (rs.length : Int)) := by
    show some (PyData.int ((strsD rs).length : Int)) = _
    unfold strsD
    rw [List.length_map]
  have q0 : ev g (.bin .add (.bi .len (.var 3)) (.cst (.int 1))) [some (.d (flD fl)), some (.d (.str st)), some (.d (.str st)), some (.d (.list (strsD rs))), some (.d (.list [.tuple []])), none, none, none] 0 = .ok (.int ((rs.length : Int) + 1), 0) := by
    simp only [exes, exe, ev, evs, evi, go_ok, go_nx, bind_ok, pure_ok, of_some, at_ok, List.getElem?_cons_succ, List.getElem?_cons_zero, List.set_cons_succ, List.set_cons_zero, putS, setSV, kdOf, anyTr, lawIn, isTr, trI, List.length_cons, List.length_nil, wipeOk, List.all_cons, List.all_nil, wipeR, bindT, bindTs, Option.bind_some, isOmit, endOf, intOf, getL, getT, getK, getR, parOk, parS, ne_eq, not_false_eq_true, reduceCtorEq, decide_false, decide_true, Bool.or_false, Bool.false_or, Bool.or_true, Bool.true_or, Bool.and_true, Bool.true_and, Bool.not_true, Bool.not_false, Bool.false_eq_true, if_true, if_false, ite_true, ite_false, if_pos, Nat.reduceLT, Nat.reduceAdd, ↓reduceIte, tst, truD, Bool.and_self, Bool.and_false, Bool.false_and, Nat.lt_add_one, Nat.zero_lt_succ, Nat.lt_irrefl, hlen, add_int]
  have q : evi g (.rng (.bin .add (.bi .len (.var 3)) (.cst (.int 1)))) [some (.d (flD fl)), some (.d (.str st)), some (.d (.str st)), some (.d (.list (strsD rs))), some (.d (.list [.tuple []])), none, none, none] 0 = .ok (rangeD ((rs.length : Int) + 1), 0) := evi_rng q0 (by omega) (by omega)
  have hr : rangeD ((rs.length : Int) + 1) = .int 0 :: (rangeD ((rs.length : Int) + 1)).tail := by
    have : ((rs.length : Int) + 1).toNat = rs.length + 1 := by omega
    unfold rangeD
    rw [this, List.range_succ_eq_map]
    rfl
  have t1 : exes g bLeast1 [some (.d (flD fl)), some (.d (.str st)), some (.d (.str st)), some (.d (.list (strsD rs))), some (.d (.list [.tuple []])), some (.d (.int 0)), some (.d (.tuple [])), none] 0 = .rt (.tuple []) 0 := by
    have e2 : cmpD .IsNot (.tuple []) .none = some true := rfl
    simp only [exes, exe, ev, evs, evi, go_ok, go_nx, bind_ok, pure_ok, of_some, at_ok, List.getElem?_cons_succ, List.getElem?_cons_zero, List.set_cons_succ, List.set_cons_zero, putS, setSV, kdOf, anyTr, lawIn, isTr, trI, List.length_cons, List.length_nil, wipeOk, List.all_cons, List.all_nil, wipeR, bindT, bindTs, Option.bind_some, isOmit, endOf, intOf, getL, getT, getK, getR, parOk, parS, ne_eq, not_false_eq_true, reduceCtorEq, decide_false, decide_true, Bool.or_false, Bool.false_or, Bool.or_true, Bool.true_or, Bool.and_true, Bool.true_and, Bool.not_true, Bool.not_false, Bool.false_eq_true, if_true, if_false, ite_true, ite_false, if_pos, Nat.reduceLT, Nat.reduceAdd, ↓reduceIte, tst, truD, Bool.and_self, Bool.and_false, Bool.false_and, Nat.lt_add_one, Nat.zero_lt_succ, Nat.lt_irrefl, bLeast1, hw, e2, List.cons_append, List.nil_append]
    rfl
  have t2 : exes g bLeast2 [some (.d (flD fl)), some (.d (.str st)), some (.d (.str st)), some (.d (.list (strsD rs))), some (.d (.list [.tuple []])), some (.d (.int 0)), none, none] 0 = .rt (.tuple []) 0 := by
    have t3 : exe g (.forr (.nm 6) (.lst (.var 4)) bLeast1) [some (.d (flD fl)), some (.d (.str st)), some (.d (.str st)), some (.d (.list (strsD rs))), some (.d (.list [.tuple []])), some (.d (.int 0)), none, none] 0 = .rt (.tuple []) 0 := by
      show forL (bindT (.nm 6)) (exes g bLeast1) [.tuple []] [some (.d (flD fl)), some (.d (.str st)), some (.d (.str st)), some (.d (.list (strsD rs))), some (.d (.list [.tuple []])), some (.d (.int 0)), none, none] 0 = _
      exact forL_rt (ρ1 := [some (.d (flD fl)), some (.d (.str st)), some (.d (.str st)), some (.d (.list (strsD rs))), some (.d (.list [.tuple []])), some (.d (.int 0)), some (.d (.tuple [])), none]) rfl t1
    unfold bLeast2
    rw [exes_cons, t3]
    rfl
  have s2 : exe g (.forr (.nm 5) (.rng (.bin .add (.bi .len (.var 3)) (.cst (.int 1)))) bLeast2) [some (.d (flD fl)), some (.d (.str st)), some (.d (.str st)), some (.d (.list (strsD rs))), some (.d (.list [.tuple []])), none, none, none] 0 = .rt (.tuple []) 0 := by
    unfold exe
    rw [q, hr]
    show forL (bindT (.nm 5)) (exes g bLeast2) (.int 0 :: (rangeD ((rs.length : Int) + 1)).tail) [some (.d (flD fl)), some (.d (.str st)), some (.d (.str st)), some (.d (.list (strsD rs))), some (.d (.list [.tuple []])), none, none, none] 0 = _
    exact forL_rt (ρ1 := [some (.d (flD fl)), some (.d (.str st)), some (.d (.str st)), some (.d (.list (strsD rs))), some (.d (.list [.tuple []])), some (.d (.int 0)), none, none]) rfl t2
  unfold bLeast
  rw [exes_cons, s1, go_nx, exes_cons, s2]
  rfl
end Y

namespace Y
open PySem PySem.W PySem.Spec PyProof.Rows L2
/-! ### stepping, from the left alone -/
theorem exes_nil {g : G} {ρ : Rho} {k : Nat} : exes g .nil ρ k = .nx ρ k := rfl
theorem bindT_nm {i : Nat} {x : D} {ρ : Rho} : bindT (.nm i) x ρ = if i < ρ.length then some (ρ.set i (some (.d x))) else none := rfl
/-! ### k40: the law's loops -/
structure K40G (g : G) : Prop where
  way : ∀ fl st, FlowOk fl → st ∈ nmsOf fl → ∃ F, WaysOk (nmsOf fl) fl st none F ∧ ∀ z, g.fn 0 [flD fl, .str st, .str z] = .ok (pO (fget F z))
  goal : ∀ fl st w, g.fn 1 [flD fl, .str st, .str w] = .ok (strO (goalIn st w fl.moves))
  least : ∀ fl st, FlowOk fl → st ∈ nmsOf fl → g.fn 2 [flD fl, .str st, .str st] = .ok (.tuple [])
  mvs : ∀ fl st, g.fn 3 [flD fl, .str st] = .ok (.tuple (strsD (movesOf st none fl.moves)))
  reach : ∀ fl st, FlowOk fl → st ∈ nmsOf fl → ∃ F, WaysOk (nmsOf fl) fl st none F ∧ g.fn 4 [flD fl, .str st] = .ok (.tuple (strsD ((nmsOf fl).filter fun x => (fget F x).isSome)))
  mvs0 : ∀ fl st, g.fn 5 [flD fl, .str st, .tuple []] = .ok (.tuple (strsD (movesOf st (some []) fl.moves)))
  reach0 : ∀ fl st, FlowOk fl → st ∈ nmsOf fl → ∃ F, WaysOk (nmsOf fl) fl st (some []) F ∧ g.fn 6 [flD fl, .str st, .tuple []] = .ok (.tuple (strsD ((nmsOf fl).filter fun x => (fget F x).isSome)))
  drawn : ∀ d, d < 800 → ∃ fl d', FlowOk fl ∧ d' ≤ d + 150 ∧ g.fnT 0 [] (3 * d) = .ok (flD fl, 3 * d')
def bLw : Ss := (.cons (.set 7 false (.call 1 (.cons (.var 3) (.cons (.var 4) (.cons (.var 6) .nil))) .nil))
      (.cons (.iff (.bop true (.cmp .NotIn (.var 7) (.call 4 (.cons (.var 3) (.cons (.var 4) .nil)) .nil)) (.cmp .Gt (.bi .len (.call 0 (.cons (.var 3) (.cons (.var 4) (.cons (.var 7) .nil))) .nil)) (.cst (.int 1)))) (.cons (.ret (.cst (.bool false)))
      .nil) .nil)
      .nil))
def bLs : Ss := (.cons (.iff (.bop true (.cmp .IsNot (.call 1 (.cons (.var 3) (.cons (.var 4) (.cons (.cst (.str "nothing")) .nil))) .nil) (.cst .none)) (.cmp .NotEq (.call 0 (.cons (.var 3) (.cons (.var 4) (.cons (.var 4) .nil))) .nil) (.tup .nil))) (.cons (.ret (.cst (.bool false)))
      .nil) .nil)
      (.cons (.iff (.cmp .NotEq (.call 2 (.cons (.var 3) (.cons (.var 4) (.cons (.var 4) .nil))) .nil) (.tup .nil)) (.cons (.ret (.cst (.bool false)))
      .nil) .nil)
      (.cons (.forr (.nm 6) (.tup (.call 3 (.cons (.var 3) (.cons (.var 4) .nil)) .nil)) bLw)
      (.cons (.iff (.bop true (.cmp .NotIn (.var 4) (.call 6 (.cons (.var 3) (.cons (.var 4) .nil)) (.cons (.tup .nil) .nil))) (.cmp .NotEq (.call 5 (.cons (.var 3) (.cons (.var 4) .nil)) (.cons (.tup .nil) .nil)) (.tup .nil))) (.cons (.ret (.cst (.bool false)))
      .nil) .nil)
      .nil))))
def bLk : Ss := (.cons (.set 3 false (.callT 0 .nil))
      (.cons (.forr (.tp (.cons (.nm 4) (.cons (.nm 5) .nil))) (.tup (.ix (.var 3) (.cst (.int 0)))) bLs)
      .nil))
def bL40 : Ss := (.cons (.forr (.nm 2) (.rng (.cst (.int 6))) bLk)
      (.cons (.ret (.cst (.bool true)))
      .nil))
theorem notIn_tup {a : Str} {l : List Str} : cmpD .NotIn (.str a) (.tuple (strsD l)) = some (!decide (a ∈ l)) := by
  show (inD _ _).map _ = _
  rw [in_strs.2]
  rfl
theorem movesOf_nil {st : Str} : ∀ {l : List Mv}, movesOf st (some []) l = []
  | [] => rfl
  | m :: l => by
    show (if m.beg = st ∧ mayDo m (some []) = true then _ else _) = _
    rw [if_neg (by simp [mayDo])]
    exact movesOf_nil
theorem goal_nothing {fl : Flow} (ho : FlowOk fl) {st : Str} : goalIn st "nothing" fl.moves = none := by
  have h : ∀ l : List Mv, (∀ m ∈ l, m.word ∈ words4) → goalIn st "nothing" l = none := by
    intro l
    induction l with
    | nil => intro _; rfl
    | cons m l ih =>
      intro h
      have h1 := h m (List.mem_cons_self ..)
      show (if (m.word, m.beg) = (("nothing" : Str), st) then _ else _) = _
      rw [if_neg]
      · exact ih fun z hz => h z (List.mem_cons_of_mem _ hz)
      · intro e
        have e1 : m.word = "nothing" := (Prod.mk.inj e).1
        rw [e1] at h1
        revert h1
        decide
  exact h _ fun m hm => (ho.mv m hm).2.2.1
theorem goal_move {st w : Str} : ∀ {l : List Mv}, w ∈ movesOf st none l → ∃ m ∈ l, m.beg = st ∧ goalIn st w l = some m.goal
  | [], h => by cases h
  | m :: l, h => by
    unfold goalIn
    by_cases e : (m.word, m.beg) = (w, st)
    · rw [if_pos e]
      exact ⟨m, List.mem_cons_self .., (Prod.mk.inj e).2, rfl⟩
    · rw [if_neg e]
      have h2 : w ∈ movesOf st none l := by
        have h : w ∈ (if m.beg = st ∧ mayDo m none = true then m.word :: movesOf st none l else movesOf st none l) := h
        split at h
        · rename_i hb
          rcases List.mem_cons.mp h with h | h
          · exact absurd (by rw [h, hb.1]) e
          · exact h
        · exact h
      obtain ⟨m', h1, h3⟩ := goal_move h2
      exact ⟨m', List.mem_cons_of_mem _ h1, h3⟩
theorem k40_words {g : G} (hg : K40G g) {fl : Flow} (ho : FlowOk fl) {st : Str} (hst : st ∈ nmsOf fl) {x2 x5 : Option SV} {k : Nat} : ∀ (ws : List Str) (x6 x7 : Option SV), (∀ w ∈ ws, w ∈ movesOf st none fl.moves) →
    ∃ x6' x7', forL (bindT (.nm 6)) (exes g bLw) (strsD ws) [some .scr, some .town, x2, some (.d (flD fl)), some (.d (.str st)), x5, x6, x7] k = .nx [some .scr, some .town, x2, some (.d (flD fl)), some (.d (.str st)), x5, x6', x7'] k
  | [], x6, x7, _ => ⟨x6, x7, rfl⟩
  | w :: ws, x6, x7, h => by
    obtain ⟨m, hm, hb, e1⟩ := goal_move (h w (List.mem_cons_self ..))
    obtain ⟨F, hF, e2⟩ := hg.way fl st ho hst
    obtain ⟨F', hF', e3⟩ := hg.reach fl st ho hst
    obtain ⟨p, hp, hl⟩ := hF.one m hm hb rfl
    obtain ⟨p', hp', _⟩ := hF'.one m hm hb rfl
    have e4 := hg.goal fl st w
    rw [e1] at e4
    have e4 : g.fn 1 [flD fl, .str st, .str w] = .ok (.str m.goal) := e4
    have e5 := e2 m.goal
    rw [hp] at e5
    have e5 : g.fn 0 [flD fl, .str st, .str m.goal] = .ok (.tuple (strsD p)) := e5
    have hin : m.goal ∈ (nmsOf fl).filter fun x => (fget F' x).isSome := by
      rw [List.mem_filter]
      exact ⟨(ho.mv m hm).2.1, by rw [hp']; rfl⟩
    have hin' : (!decide (m.goal ∈ (nmsOf fl).filter fun x => (fget F' x).isSome)) = false := by rw [decide_eq_true hin]; rfl
    have hlen : biD .len (.tuple (strsD p)) = some (.int (p.length : Int)) := by
      show some (PyData.int ((strsD p).length : Int)) = _
      unfold strsD
      rw [List.length_map]
    have hgt : cmpD .Gt (.int (p.length : Int)) (.int 1) = some false := by
      show some (decide ((1 : Int) < (p.length : Int))) = _
      rw [decide_eq_false (by omega)]
    obtain ⟨y6, y7, ih⟩ := k40_words hg ho hst (x2 := x2) (x5 := x5) (k := k) ws (some (.d (.str w))) (some (.d (.str m.goal))) fun z hz => h z (List.mem_cons_of_mem _ hz)
    refine ⟨y6, y7, ?_⟩
    rw [strsD_cons]
    refine forL_nx (ρ1 := [some .scr, some .town, x2, some (.d (flD fl)), some (.d (.str st)), x5, some (.d (.str w)), x7]) rfl ?_ ih
    simp only [exes_cons, exes_nil, exe, ev, evs, evi, go_ok, go_nx, bind_ok, pure_ok, of_some, at_ok, List.getElem?_cons_succ, List.getElem?_cons_zero, List.set_cons_succ, List.set_cons_zero, putS, setSV, kdOf, anyTr, lawIn, isTr, trI, List.length_cons, List.length_nil, wipeOk, List.all_cons, List.all_nil, wipeR, Option.bind_some, isOmit, endOf, intOf, getL, getT, getK, parOk, parS, ne_eq, not_false_eq_true, reduceCtorEq, decide_false, decide_true, Bool.or_false, Bool.false_or, Bool.or_true, Bool.true_or, Bool.and_true, Bool.true_and, Bool.not_true, Bool.not_false, Bool.false_eq_true, if_true, if_false, ite_true, ite_false, if_pos, Nat.reduceLT, Nat.reduceAdd, ↓reduceIte, tst, truD, Bool.and_self, Bool.and_false, Bool.false_and, Nat.lt_add_one, Nat.zero_lt_succ, Nat.lt_irrefl, List.append_nil, List.cons_append, List.nil_append, bLw, e3, e4, e5, notIn_tup, hin', hlen, hgt, List.append_nil]
theorem k40_states {g : G} (hg : K40G g) {fl : Flow} (ho : FlowOk fl) {x2 : Option SV} {k : Nat} : ∀ (l : List (Str × Str)) (x4 x5 x6 x7 : Option SV), (∀ q ∈ l, q.1 ∈ nmsOf fl) →
    ∃ x4' x5' x6' x7', forL (bindT (.tp (.cons (.nm 4) (.cons (.nm 5) .nil)))) (exes g bLs) (l.map pairD) [some .scr, some .town, x2, some (.d (flD fl)), x4, x5, x6, x7] k = .nx [some .scr, some .town, x2, some (.d (flD fl)), x4', x5', x6', x7'] k
  | [], x4, x5, x6, x7, _ => ⟨x4, x5, x6, x7, rfl⟩
  | q :: l, x4, x5, x6, x7, h => by
    have hst := h q (List.mem_cons_self ..)
    obtain ⟨st, so⟩ := q
    have hst : st ∈ nmsOf fl := hst
    obtain ⟨y6, y7, e0⟩ := k40_words hg ho hst (x2 := x2) (x5 := some (.d (.str so))) (k := k) (movesOf st none fl.moves) x6 x7 fun _ h => h
    obtain ⟨z4, z5, z6, z7, ih⟩ := k40_states hg ho (x2 := x2) (k := k) l (some (.d (.str st))) (some (.d (.str so))) y6 y7 fun z hz => h z (List.mem_cons_of_mem _ hz)
    refine ⟨z4, z5, z6, z7, ?_⟩
    rw [List.map_cons]
    refine forL_nx (ρ1 := [some .scr, some .town, x2, some (.d (flD fl)), some (.d (.str st)), some (.d (.str so)), x6, x7]) rfl ?_ ih
    obtain ⟨F, hF, e2⟩ := hg.way fl st ho hst
    obtain ⟨F', hF', e3⟩ := hg.reach0 fl st ho hst
    have e1 := hg.goal fl st "nothing"
    rw [goal_nothing ho] at e1
    have e1 : g.fn 1 [flD fl, .str st, .str "nothing"] = .ok .none := e1
    have e5 := e2 st
    rw [hF.here] at e5
    have e5 : g.fn 0 [flD fl, .str st, .str st] = .ok (.tuple []) := e5
    have e6 := hg.least fl st ho hst
    have e7 := hg.mvs fl st
    have e8 := hg.mvs0 fl st
    rw [movesOf_nil] at e8
    have e8 : g.fn 5 [flD fl, .str st, .tuple []] = .ok (.tuple []) := e8
    have hin : (!decide (st ∈ (nmsOf fl).filter fun x => (fget F' x).isSome)) = false := by
      rw [decide_eq_true]
      · rfl
      · rw [List.mem_filter]
        exact ⟨hst, by rw [hF'.here]; rfl⟩
    have c1 : cmpD .IsNot .none .none = some false := rfl
    have c2 : cmpD .NotEq (.tuple []) (.tuple []) = some false := rfl
    simp only [exes_cons, exes_nil, exe, ev, evs, evi, go_ok, go_nx, bind_ok, pure_ok, of_some, at_ok, List.getElem?_cons_succ, List.getElem?_cons_zero, List.set_cons_succ, List.set_cons_zero, putS, setSV, kdOf, anyTr, lawIn, isTr, trI, List.length_cons, List.length_nil, wipeOk, List.all_cons, List.all_nil, wipeR, Option.bind_some, isOmit, endOf, intOf, getL, getT, getK, parOk, parS, ne_eq, not_false_eq_true, reduceCtorEq, decide_false, decide_true, Bool.or_false, Bool.false_or, Bool.or_true, Bool.true_or, Bool.and_true, Bool.true_and, Bool.not_true, Bool.not_false, Bool.false_eq_true, if_true, if_false, ite_true, ite_false, if_pos, Nat.reduceLT, Nat.reduceAdd, ↓reduceIte, tst, truD, Bool.and_self, Bool.and_false, Bool.false_and, Nat.lt_add_one, Nat.zero_lt_succ, Nat.lt_irrefl, List.append_nil, List.cons_append, List.nil_append, bLs, e1, e3, e5, e6, e7, e8, e0, c1, c2, notIn_tup, hin, List.append_nil, List.cons_append, List.nil_append]
theorem k40_rounds {g : G} (hg : K40G g) : ∀ (l : List D) (d : Nat) (x2 x3 x4 x5 x6 x7 : Option SV), d + 150 * l.length ≤ 900 →
    ∃ x2' x3' x4' x5' x6' x7' k', forL (bindT (.nm 2)) (exes g bLk) l [some .scr, some .town, x2, x3, x4, x5, x6, x7] (3 * d) = .nx [some .scr, some .town, x2', x3', x4', x5', x6', x7'] k'
  | [], d, x2, x3, x4, x5, x6, x7, _ => ⟨x2, x3, x4, x5, x6, x7, 3 * d, rfl⟩
  | x :: l, d, x2, x3, x4, x5, x6, x7, h => by
    rw [List.length_cons] at h
    obtain ⟨fl, d', ho, hd, e⟩ := hg.drawn d (by omega)
    obtain ⟨y4, y5, y6, y7, e0⟩ := k40_states hg ho (x2 := some (.d x)) (k := 3 * d') fl.states x4 x5 x6 x7 fun q hq => List.mem_map_of_mem hq
    obtain ⟨z2, z3, z4, z5, z6, z7, k', ih⟩ := k40_rounds hg l d' (some (.d x)) (some (.d (flD fl))) y4 y5 y6 y7 (by omega)
    refine ⟨z2, z3, z4, z5, z6, z7, k', ?_⟩
    refine forL_nx (ρ1 := [some .scr, some .town, some (.d x), x3, x4, x5, x6, x7]) rfl ?_ ih
    simp only [exes_cons, exes_nil, exe, ev, evs, evi, go_ok, go_nx, bind_ok, pure_ok, of_some, at_ok, List.getElem?_cons_succ, List.getElem?_cons_zero, List.set_cons_succ, List.set_cons_zero, putS, setSV, kdOf, anyTr, lawIn, isTr, trI, List.length_cons, List.length_nil, wipeOk, List.all_cons, List.all_nil, wipeR, Option.bind_some, isOmit, endOf, intOf, getL, getT, getK, parOk, parS, ne_eq, not_false_eq_true, reduceCtorEq, decide_false, decide_true, Bool.or_false, Bool.false_or, Bool.or_true, Bool.true_or, Bool.and_true, Bool.true_and, Bool.not_true, Bool.not_false, Bool.false_eq_true, if_true, if_false, ite_true, ite_false, if_pos, Nat.reduceLT, Nat.reduceAdd, ↓reduceIte, tst, truD, Bool.and_self, Bool.and_false, Bool.false_and, Nat.lt_add_one, Nat.zero_lt_succ, Nat.lt_irrefl, List.append_nil, List.cons_append, List.nil_append, bLk, e, fl_at.1, e0]
theorem k40_law {g : G} (hg : K40G g) : ∃ k, exes g bL40 [some .scr, some .town, none, none, none, none, none, none] 0 = .rt (.bool true) k := by
  obtain ⟨x2, x3, x4, x5, x6, x7, k, e⟩ := k40_rounds hg (rangeD 6) 0 none none none none none none (by decide)
  refine ⟨k, ?_⟩
  have e : forL (bindT (.nm 2)) (exes g bLk) (rangeD 6) [some .scr, some .town, none, none, none, none, none, none] 0 = .nx [some .scr, some .town, x2, x3, x4, x5, x6, x7] k := e
  have e2 : exe g (.forr (.nm 2) (.rng (.cst (.int 6))) bLk) [some .scr, some .town, none, none, none, none, none, none] 0 = .nx [some .scr, some .town, x2, x3, x4, x5, x6, x7] k := by
    unfold exe
    rw [evi_rng (n := 6) rfl (by decide) (by decide)]
    exact e
  unfold bL40
  rw [exes_cons, e2, go_nx]
  rfl
end Y

namespace Y
open PySem PySem.W PySem.Spec PyProof.Rows L2
/-! ### ways, natively: breadth first finds the shortest ones -/
def Mvd (fl : Flow) (rl : Option (List Str)) (x w y : Str) : Prop := ∃ m ∈ fl.moves, m.beg = x ∧ m.word = w ∧ m.goal = y ∧ mayDo m rl = true
inductive Led (fl : Flow) (rl : Option (List Str)) (x : Str) : List Str → Str → Prop
  | nil : Led fl rl x [] x
  | snoc {ws : List Str} {y w z : Str} : Led fl rl x ws y → Mvd fl rl y w z → Led fl rl x (ws ++ [w]) z
def wayIn (rl : Option (List Str)) (here : Str) (p : List Str) : List Mv → Fd → List Str → Fd × List Str
  | [], f, row => (f, row)
  | m :: l, f, row => if m.beg = here ∧ fget f m.goal = none ∧ mayDo m rl = true then wayIn rl here p l (f ++ [(m.goal, p ++ [m.word])]) (row ++ [m.goal]) else wayIn rl here p l f row
theorem fget_none {f : Fd} {x : Str} : fget f x = none ↔ x ∉ f.map (·.1) := by
  rw [← fget_mem]
  cases fget f x <;> simp
theorem fget_app_none {f g : Fd} {x : Str} (h : fget f x = none) : fget (f ++ g) x = fget g x := by
  induction f with
  | nil => rfl
  | cons q f ih =>
    unfold fget at h
    by_cases e : q.1 = x
    · rw [if_pos e] at h; cases h
    · rw [if_neg e] at h
      show (if q.1 = x then _ else _) = _
      rw [if_neg e]
      exact ih h
theorem fget_app_some {f g : Fd} {x : Str} {p : List Str} (h : fget f x = some p) : fget (f ++ g) x = some p := by
  induction f with
  | nil => cases h
  | cons q f ih =>
    unfold fget at h
    show (if q.1 = x then _ else _) = _
    by_cases e : q.1 = x
    · rw [if_pos e] at h ⊢; exact h
    · rw [if_neg e] at h ⊢; exact ih h
theorem fget_of_mem {f : Fd} (nd : (f.map (·.1)).Nodup) {q : Str × List Str} (h : q ∈ f) : fget f q.1 = some q.2 := by
  induction f with
  | nil => cases h
  | cons r f ih =>
    rw [List.map_cons, List.nodup_cons] at nd
    show (if r.1 = q.1 then _ else _) = _
    rcases List.mem_cons.mp h with h | h
    · rw [h, if_pos rfl]
    · rw [if_neg]
      · exact ih nd.2 h
      · intro e
        exact nd.1 (e ▸ List.mem_map_of_mem h)
theorem wayIn_new {rl : Option (List Str)} {here : Str} {p : List Str} : ∀ (l : List Mv) (f : Fd) (row : List Str), ∃ new : Fd, wayIn rl here p l f row = (f ++ new, row ++ new.map (·.1)) ∧
    (∀ e ∈ new, fget f e.1 = none ∧ ∃ m ∈ l, m.beg = here ∧ mayDo m rl = true ∧ e = (m.goal, p ++ [m.word])) ∧ (new.map (·.1)).Nodup ∧ (∀ m ∈ l, m.beg = here → mayDo m rl = true → (fget (f ++ new) m.goal).isSome)
  | [], f, row => ⟨[], by simp [wayIn], by simp, by simp, by simp⟩
  | m :: l, f, row => by
    unfold wayIn
    by_cases h : m.beg = here ∧ fget f m.goal = none ∧ mayDo m rl = true
    · rw [if_pos h]
      obtain ⟨new, e1, e2, e3, e4⟩ := wayIn_new (rl := rl) (here := here) (p := p) l (f ++ [(m.goal, p ++ [m.word])]) (row ++ [m.goal])
      refine ⟨(m.goal, p ++ [m.word]) :: new, by rw [e1]; simp, ?_, ?_, ?_⟩
      · intro e he
        rcases List.mem_cons.mp he with he | he
        · subst he
          exact ⟨h.2.1, m, List.mem_cons_self .., h.1, h.2.2, rfl⟩
        · obtain ⟨h1, m', h2, h3⟩ := e2 e he
          refine ⟨?_, m', List.mem_cons_of_mem _ h2, h3⟩
          cases z : fget f e.1 with
          | none => rfl
          | some q => rw [fget_app_some z] at h1; cases h1
      · rw [List.map_cons, List.nodup_cons]
        refine ⟨fun hin => ?_, e3⟩
        obtain ⟨e, he, heq⟩ := List.mem_map.mp hin
        have := (e2 e he).1
        rw [fget_app, heq] at this
        rw [h.2.1] at this
        simp at this
      · intro z hz b1 b2
        have e : f ++ (m.goal, p ++ [m.word]) :: new = f ++ [(m.goal, p ++ [m.word])] ++ new := by simp
        rw [e]
        rcases List.mem_cons.mp hz with hz | hz
        · rw [hz]
          have : fget (f ++ [(m.goal, p ++ [m.word])]) m.goal = some (p ++ [m.word]) := by
            rw [fget_app_none h.2.1]
            exact if_pos rfl
          rw [fget_app_some this]
          rfl
        · exact e4 z hz b1 b2
    · rw [if_neg h]
      obtain ⟨new, e1, e2, e3, e4⟩ := wayIn_new (rl := rl) (here := here) (p := p) l f row
      refine ⟨new, e1, ?_, e3, ?_⟩
      · intro e he
        obtain ⟨h1, m', h2, h3⟩ := e2 e he
        exact ⟨h1, m', List.mem_cons_of_mem _ h2, h3⟩
      · intro z hz b1 b2
        rcases List.mem_cons.mp hz with hz | hz
        · subst hz
          cases w : fget f z.goal with
          | none => exact absurd ⟨b1, w, b2⟩ h
          | some q => rw [fget_app_some w]; rfl
        · exact e4 z hz b1 b2
/-- how far a state is told to be -/
def far (f : Fd) (x : Str) : Nat := ((fget f x).getD []).length
theorem far_some {f : Fd} {x : Str} {p : List Str} (h : fget f x = some p) : far f x = p.length := by
  unfold far; rw [h]; rfl
structure BInv (fl : Flow) (rl : Option (List Str)) (st : Str) (f : Fd) (row : List Str) : Prop where
  nd : (f.map (·.1)).Nodup
  sub : ∀ x ∈ f.map (·.1), x ∈ nmsOf fl
  begin : fget f st = some []
  path : ∀ q ∈ f, Led fl rl st q.2 q.1
  len : ∀ q ∈ f, q.2.length < f.length
  has : ∀ x ∈ row, (fget f x).isSome
  rise : row.Pairwise fun x y => far f x ≤ far f y
  all : ∀ h, row.head? = some h → ∀ q ∈ f, q.2.length ≤ far f h + 1
  done : ∀ q ∈ f, q.1 ∉ row → ∀ m ∈ fl.moves, m.beg = q.1 → mayDo m rl = true → ∃ p, fget f m.goal = some p ∧ p.length ≤ q.2.length + 1
theorem BInv.few {fl : Flow} {rl : Option (List Str)} {st : Str} {f : Fd} {row : List Str} (w : BInv fl rl st f row) (hn : (nmsOf fl).length ≤ 6) : f.length ≤ 6 := by
  have := w.nd.length_le_of_subset (l₂ := nmsOf fl) w.sub
  rw [List.length_map] at this
  omega
theorem BInv.turn {fl : Flow} (ho : FlowOk fl) {rl : Option (List Str)} {st here : Str} {f : Fd} {row : List Str} {p : List Str} (w : BInv fl rl st f (here :: row)) (hp : fget f here = some p) :
    ∃ new : Fd, wayIn rl here p fl.moves f row = (f ++ new, row ++ new.map (·.1)) ∧ BInv fl rl st (f ++ new) (row ++ new.map (·.1)) := by
  obtain ⟨new, e1, e2, e3, e4⟩ := wayIn_new (rl := rl) (here := here) (p := p) fl.moves f row
  have hfar := far_some hp
  have hall : ∀ q ∈ f, q.2.length ≤ p.length + 1 := fun q hq => by
    have := w.all here rfl q hq
    rw [hfar] at this
    exact this
  have hrise := List.pairwise_cons.mp w.rise
  have old : ∀ {x q}, fget f x = some q → fget (f ++ new) x = some q := fun h => fget_app_some h
  have nd' : ((f ++ new).map (·.1)).Nodup := by
    rw [List.map_append, List.nodup_append]
    refine ⟨w.nd, e3, ?_⟩
    intro a ha b hb e
    obtain ⟨c, hc, rfl⟩ := List.mem_map.mp hb
    have h1 := (e2 c hc).1
    rw [fget_none] at h1
    exact h1 (e ▸ ha)
  have newlen : ∀ e ∈ new, e.2.length = p.length + 1 := fun e he => by
    obtain ⟨_, m, _, _, _, h⟩ := e2 e he
    rw [h]; simp
  have newget : ∀ e ∈ new, fget (f ++ new) e.1 = some e.2 := fun e he => fget_of_mem nd' (List.mem_append_right _ he)
  have farold : ∀ x, (fget f x).isSome → far (f ++ new) x = far f x := fun x hx => by
    obtain ⟨q, hq⟩ := Option.isSome_iff_exists.mp hx
    rw [far_some hq, far_some (old hq)]
  have farnew : ∀ x ∈ new.map (·.1), far (f ++ new) x = p.length + 1 := fun x hx => by
    obtain ⟨e, he, rfl⟩ := List.mem_map.mp hx
    rw [far_some (newget e he), newlen e he]
  have rowfar : ∀ x ∈ row, far (f ++ new) x = far f x := fun x hx => farold x (w.has x (List.mem_cons_of_mem _ hx))
  have rowle : ∀ x ∈ row, far f x ≤ p.length + 1 := fun x hx => by
    obtain ⟨q, hq⟩ := Option.isSome_iff_exists.mp (w.has x (List.mem_cons_of_mem _ hx))
    rw [far_some hq]
    exact hall _ (fget_in hq)
  refine ⟨new, e1, { nd := nd', sub := ?_, begin := old w.begin, path := ?_, len := ?_, has := ?_, rise := ?_, all := ?_, done := ?_ }⟩
  · intro x hx
    rw [List.map_append] at hx
    rcases List.mem_append.mp hx with h | h
    · exact w.sub x h
    · obtain ⟨e, he, rfl⟩ := List.mem_map.mp h
      obtain ⟨_, m, hm, _, _, h⟩ := e2 e he
      rw [h]
      exact (ho.mv m hm).2.1
  · intro q hq
    rcases List.mem_append.mp hq with h | h
    · exact w.path q h
    · obtain ⟨_, m, hm, hb, hd, h⟩ := e2 q h
      rw [h]
      exact .snoc (w.path _ (fget_in hp)) ⟨m, hm, hb, rfl, rfl, hd⟩
  · intro q hq
    rw [List.length_append]
    rcases List.mem_append.mp hq with h | h
    · have := w.len q h
      omega
    · have h1 := w.len _ (fget_in hp)
      have h1 : p.length < f.length := h1
      have h2 := newlen q h
      have h3 := List.length_pos_of_mem h
      omega
  · intro x hx
    rcases List.mem_append.mp hx with h | h
    · obtain ⟨q, hq⟩ := Option.isSome_iff_exists.mp (w.has x (List.mem_cons_of_mem _ h))
      rw [old hq]; rfl
    · obtain ⟨e, he, rfl⟩ := List.mem_map.mp h
      rw [newget e he]; rfl
  · rw [List.pairwise_append]
    refine ⟨?_, ?_, ?_⟩
    · exact hrise.2.imp_of_mem fun {a b} ha hb h => by rw [rowfar a ha, rowfar b hb]; exact h
    · refine List.Pairwise.imp_of_mem (R := fun _ _ => True) ?_ (List.pairwise_of_forall fun _ _ => trivial)
      intro a b ha hb _
      rw [farnew a ha, farnew b hb]
      exact Nat.le_refl _
    · intro a ha b hb
      rw [rowfar a ha, farnew b hb]
      exact rowle a ha
  · intro h hh q hq
    have hq' : q.2.length ≤ p.length + 1 := by
      rcases List.mem_append.mp hq with z | z
      · exact hall q z
      · exact Nat.le_of_eq (newlen q z)
    refine Nat.le_trans hq' ?_
    cases row with
    | nil =>
      have hm : h ∈ new.map (·.1) := List.mem_of_mem_head? (by simpa using hh)
      rw [farnew h hm]
      omega
    | cons r row =>
      have e : h = r := by simpa using hh.symm
      subst e
      rw [rowfar h (List.mem_cons_self ..)]
      have := hrise.1 h (List.mem_cons_self ..)
      rw [hfar] at this
      omega
  · intro q hq hr m hm hb hd
    rcases List.mem_append.mp hq with h | h
    · by_cases hh : q.1 = here
      · have hqp : q.2 = p := by
          have := fget_of_mem w.nd h
          rw [hh, hp] at this
          exact (Option.some.inj this).symm
        have := e4 m hm (hb.trans hh) hd
        obtain ⟨p', hp'⟩ := Option.isSome_iff_exists.mp this
        refine ⟨p', hp', ?_⟩
        rw [hqp]
        rcases List.mem_append.mp (fget_in hp') with z | z
        · exact hall _ z
        · exact Nat.le_of_eq (newlen _ z)
      · obtain ⟨p', h1, h2⟩ := w.done q h (fun z => by
          rcases List.mem_cons.mp z with z | z
          · exact hh z
          · exact hr (List.mem_append_left _ z)) m hm hb hd
        exact ⟨p', old h1, h2⟩
    · exact absurd (List.mem_append_right _ (List.mem_map_of_mem h)) hr
/-- what is told in the end -/
structure Ways (fl : Flow) (rl : Option (List Str)) (st : Str) (F : Fd) : Prop where
  nd : (F.map (·.1)).Nodup
  sub : ∀ x ∈ F.map (·.1), x ∈ nmsOf fl
  path : ∀ x p, fget F x = some p → Led fl rl st p x
  full : ∀ w x, Led fl rl st w x → ∃ p, fget F x = some p ∧ p.length ≤ w.length
  short : ∀ x p, fget F x = some p → p.length < F.length
theorem BInv.ways {fl : Flow} {rl : Option (List Str)} {st : Str} {f : Fd} (w : BInv fl rl st f []) : Ways fl rl st f where
  nd := w.nd
  sub := w.sub
  path := fun x p h => w.path _ (fget_in h)
  short := fun x p h => w.len _ (fget_in h)
  full := fun ws x h => by
    induction h with
    | nil => exact ⟨[], w.begin, Nat.le_refl _⟩
    | snoc h hm ih =>
      obtain ⟨p, h1, h2⟩ := ih
      obtain ⟨m, hm, hb, _, hg, hd⟩ := hm
      obtain ⟨p', h3, h4⟩ := w.done _ (fget_in h1) (by simp) m hm hb hd
      rw [hg] at h3
      refine ⟨p', h3, ?_⟩
      rw [List.length_append, List.length_singleton]
      have h4 : p'.length ≤ p.length + 1 := h4
      omega
end Y

namespace Y
open PySem PySem.W PySem.Spec PyProof.Rows L2
/-! ### ways_from tells the shortest ways -/
theorem wayIn_run {g : G} (hm : MayOk (g.fn 0)) {x0 x1 : Option SV} {rl : Option (List Str)} {here : Str} {p : List Str} (hpl : p.length ≤ 1000) : ∀ (mvs : List Mv) (f : Fd) (row : List Str) (x6 : Option SV) (k : Nat), fget f here = some p → f.length + mvs.length ≤ 1000 → row.length + mvs.length ≤ 1000 →
    ∃ (x6' : Option SV), forL (bindT (.nm 6)) (exes g bWayIn) (mvs.map mvD) [x0, x1, some (.d (rolD rl)), some (.ownd false (fdD f)), some (.own (strsD row)), some (.d (.str here)), x6] k = .nx [x0, x1, some (.d (rolD rl)), some (.ownd false (fdD (wayIn rl here p mvs f row).1)), some (.own (strsD (wayIn rl here p mvs f row).2)), some (.d (.str here)), x6'] k
  | [], f, row, x6, k, _, _, _ => ⟨x6, rfl⟩
  | m :: l, f, row, x6, k, h2, h3, h4 => by
    rw [List.length_cons] at h3 h4
    have hb := hm m rl
    rw [List.map_cons]
    unfold wayIn
    by_cases ha : m.beg = here ∧ fget f m.goal = none ∧ mayDo m rl = true
    · rw [if_pos ha]
      obtain ⟨a1, a2, a3⟩ := ha
      obtain ⟨x6', e1⟩ := wayIn_run hm (x0 := x0) (x1 := x1) (rl := rl) hpl l (f ++ [(m.goal, p ++ [m.word])]) (row ++ [m.goal]) (some (.d (mvD m))) k (fget_app_some h2) (by simp; omega) (by simp; omega)
      refine ⟨x6', forL_nx rfl ?_ e1⟩
      have z1 : binD .add (.tuple (strsD p)) (.tuple [.str m.word]) = some (.tuple (strsD (p ++ [m.word]))) := by
        have hz : lim ((strsD p).length + [PyData.str m.word].length) = true := by
          unfold lim strsD
          rw [List.length_map, List.length_singleton]
          exact decide_eq_true (by omega)
        show (if _ then _ else _) = _
        rw [if_pos hz]
        unfold strsD
        rw [List.map_append]
        rfl
      have z2 : lim ((fdD f).length + 1) = true := by
        unfold lim fdD
        rw [List.length_map]
        exact decide_eq_true (by omega)
      have z3 : lim ((strsD row).length + 1) = true := by
        unfold lim strsD
        rw [List.length_map]
        exact decide_eq_true (by omega)
      have z4 : strsD row ++ [.str m.goal] = strsD (row ++ [m.goal]) := by
        unfold strsD
        rw [List.map_append]
        rfl
      have z5 : keyOk false (.str m.goal) = true := rfl
      simp only [exes, exe, ev, evs, evi, go_ok, go_nx, bind_ok, pure_ok, of_some, at_ok, List.getElem?_cons_succ, List.getElem?_cons_zero, List.set_cons_succ, List.set_cons_zero, putS, setSV, kdOf, anyTr, lawIn, isTr, trI, List.length_cons, List.length_nil, wipeOk, List.all_cons, List.all_nil, wipeR, bindT, bindTs, Option.bind_some, isOmit, endOf, intOf, getL, getT, getK, getR, parOk, parS, ne_eq, not_false_eq_true, reduceCtorEq, decide_false, decide_true, Bool.or_false, Bool.false_or, Bool.or_true, Bool.true_or, Bool.and_true, Bool.true_and, Bool.not_true, Bool.not_false, Bool.false_eq_true, if_true, if_false, ite_true, ite_false, if_pos, Nat.reduceLT, Nat.reduceAdd, ↓reduceIte, tst, truD, Bool.and_self, Bool.and_false, Bool.false_and, Nat.lt_add_one, Nat.zero_lt_succ, Nat.lt_irrefl, bWayIn, mv_at.1, mv_at.2.1, mv_at.2.2.1, eqD_str, a1, fd_in, a2, a3, hb, fd_kind, fd_ix h2, z1, z2, z3, z4, z5, fd_put a2, Option.isSome_none, List.cons_append, List.nil_append, List.append_nil]
    · rw [if_neg ha]
      obtain ⟨x6', e1⟩ := wayIn_run hm (x0 := x0) (x1 := x1) (rl := rl) hpl l f row (some (.d (mvD m))) k h2 (by omega) (by omega)
      refine ⟨x6', forL_nx rfl ?_ e1⟩
      by_cases a1 : m.beg = here
      · cases a2 : fget f m.goal with
        | some q =>
          simp only [exes, exe, ev, evs, evi, go_ok, go_nx, bind_ok, pure_ok, of_some, at_ok, List.getElem?_cons_succ, List.getElem?_cons_zero, List.set_cons_succ, List.set_cons_zero, putS, setSV, kdOf, anyTr, lawIn, isTr, trI, List.length_cons, List.length_nil, wipeOk, List.all_cons, List.all_nil, wipeR, bindT, bindTs, Option.bind_some, isOmit, endOf, intOf, getL, getT, getK, getR, parOk, parS, ne_eq, not_false_eq_true, reduceCtorEq, decide_false, decide_true, Bool.or_false, Bool.false_or, Bool.or_true, Bool.true_or, Bool.and_true, Bool.true_and, Bool.not_true, Bool.not_false, Bool.false_eq_true, if_true, if_false, ite_true, ite_false, if_pos, Nat.reduceLT, Nat.reduceAdd, ↓reduceIte, tst, truD, Bool.and_self, Bool.and_false, Bool.false_and, Nat.lt_add_one, Nat.zero_lt_succ, Nat.lt_irrefl, bWayIn, mv_at.1, mv_at.2.1, mv_at.2.2.1, eqD_str, a1, fd_in, a2, hb, fd_kind, Option.isSome_some, List.cons_append, List.nil_append, List.append_nil]
        | none =>
          have a3 : mayDo m rl = false := by
            cases h : mayDo m rl with
            | false => rfl
            | true => exact absurd ⟨a1, a2, h⟩ ha
          simp only [exes, exe, ev, evs, evi, go_ok, go_nx, bind_ok, pure_ok, of_some, at_ok, List.getElem?_cons_succ, List.getElem?_cons_zero, List.set_cons_succ, List.set_cons_zero, putS, setSV, kdOf, anyTr, lawIn, isTr, trI, List.length_cons, List.length_nil, wipeOk, List.all_cons, List.all_nil, wipeR, bindT, bindTs, Option.bind_some, isOmit, endOf, intOf, getL, getT, getK, getR, parOk, parS, ne_eq, not_false_eq_true, reduceCtorEq, decide_false, decide_true, Bool.or_false, Bool.false_or, Bool.or_true, Bool.true_or, Bool.and_true, Bool.true_and, Bool.not_true, Bool.not_false, Bool.false_eq_true, if_true, if_false, ite_true, ite_false, if_pos, Nat.reduceLT, Nat.reduceAdd, ↓reduceIte, tst, truD, Bool.and_self, Bool.and_false, Bool.false_and, Nat.lt_add_one, Nat.zero_lt_succ, Nat.lt_irrefl, bWayIn, mv_at.1, mv_at.2.1, mv_at.2.2.1, eqD_str, a1, fd_in, a2, a3, hb, fd_kind, Option.isSome_none, List.cons_append, List.nil_append, List.append_nil]
      · simp only [exes, exe, ev, evs, evi, go_ok, go_nx, bind_ok, pure_ok, of_some, at_ok, List.getElem?_cons_succ, List.getElem?_cons_zero, List.set_cons_succ, List.set_cons_zero, putS, setSV, kdOf, anyTr, lawIn, isTr, trI, List.length_cons, List.length_nil, wipeOk, List.all_cons, List.all_nil, wipeR, bindT, bindTs, Option.bind_some, isOmit, endOf, intOf, getL, getT, getK, getR, parOk, parS, ne_eq, not_false_eq_true, reduceCtorEq, decide_false, decide_true, Bool.or_false, Bool.false_or, Bool.or_true, Bool.true_or, Bool.and_true, Bool.true_and, Bool.not_true, Bool.not_false, Bool.false_eq_true, if_true, if_false, ite_true, ite_false, if_pos, Nat.reduceLT, Nat.reduceAdd, ↓reduceIte, tst, truD, Bool.and_self, Bool.and_false, Bool.false_and, Nat.lt_add_one, Nat.zero_lt_succ, Nat.lt_irrefl, bWayIn, mv_at.1, mv_at.2.1, mv_at.2.2.1, eqD_str, a1]
def wayLoop (fl : Flow) (rl : Option (List Str)) : Nat → Fd → List Str → Fd
  | 0, f, _ => f
  | _ + 1, f, [] => f
  | n + 1, f, here :: row => wayLoop fl rl n (wayIn rl here ((fget f here).getD []) fl.moves f row).1 (wayIn rl here ((fget f here).getD []) fl.moves f row).2
theorem wayOut_run {g : G} (hm : MayOk (g.fn 0)) {fl : Flow} (ho : FlowOk fl) {st : Str} {x1 : Option SV} {rl : Option (List Str)} {k : Nat} : ∀ (n : Nat) (f : Fd) (row : List Str) (x5 x6 : Option SV), BInv fl rl st f row → row.length + 6 < n + f.length → row.length ≤ f.length →
    ∃ (x5' x6' : Option SV), whlL (ev g (.var 4)) (exes g bWayOut) n [some (.d (flD fl)), x1, some (.d (rolD rl)), some (.ownd false (fdD f)), some (.own (strsD row)), x5, x6] k = .nx [some (.d (flD fl)), x1, some (.d (rolD rl)), some (.ownd false (fdD (wayLoop fl rl n f row))), some (.own []), x5', x6'] k ∧ BInv fl rl st (wayLoop fl rl n f row) []
  | 0, f, row, _, _, w, h, _ => by
    have := w.few (by unfold nmsOf; rw [List.length_map]; exact ho.few)
    omega
  | n + 1, f, [], x5, x6, w, h, _ => ⟨x5, x6, whl_f rfl rfl, w⟩
  | n + 1, f, here :: row, x5, x6, w, h, hr => by
    rw [List.length_cons] at h hr
    have hn : (nmsOf fl).length ≤ 6 := by unfold nmsOf; rw [List.length_map]; exact ho.few
    have hf0 := w.few hn
    obtain ⟨p, hp⟩ := Option.isSome_iff_exists.mp (w.has here (List.mem_cons_self ..))
    have hpl : p.length < f.length := w.len _ (fget_in hp)
    obtain ⟨new, e1, e2⟩ := w.turn ho hp
    have hf1 := e2.few hn
    rw [List.length_append] at hf1
    have hmf := ho.mfew
    obtain ⟨x6', e3⟩ := wayIn_run hm (x0 := some (.d (flD fl))) (x1 := x1) (rl := rl) (here := here) (p := p) (by omega) fl.moves f row x6 k hp (by omega) (by omega)
    rw [e1] at e3
    obtain ⟨z5, z6, c1, c2⟩ := wayOut_run hm ho (x1 := x1) (rl := rl) (k := k) n (f ++ new) (row ++ new.map (·.1)) (some (.d (.str here))) x6' e2 (by simp; omega) (by simp; omega)
    have e9 : wayLoop fl rl (n + 1) f (here :: row) = wayLoop fl rl n (f ++ new) (row ++ new.map (·.1)) := by
      show wayLoop fl rl n _ _ = _
      rw [hp]
      show wayLoop fl rl n (wayIn rl here p fl.moves f row).1 (wayIn rl here p fl.moves f row).2 = _
      rw [e1]
    rw [e9]
    refine ⟨z5, z6, whl_t (k1 := k) rfl rfl ?_ c1, c2⟩
    have s1 : exe g (.star (.cons (.nm 5) .nil) 4 true (.var 4)) [some (.d (flD fl)), x1, some (.d (rolD rl)), some (.ownd false (fdD f)), some (.own (strsD (here :: row))), x5, x6] k = .nx [some (.d (flD fl)), x1, some (.d (rolD rl)), some (.ownd false (fdD f)), some (.own (strsD row)), some (.d (.str here)), x6] k := by
      unfold exe
      rw [show ev g (.var 4) [some (.d (flD fl)), x1, some (.d (rolD rl)), some (.ownd false (fdD f)), some (.own (strsD (here :: row))), x5, x6] k = .ok (.list (strsD (here :: row)), k) from rfl, go_ok]
      unfold starS
      rw [show seqOf (.list (strsD (here :: row))) = some (strsD (here :: row)) from rfl]
      dsimp only
      rw [if_pos (show (Tgs.cons (.nm 5) .nil).len ≤ (strsD (here :: row)).length from Nat.succ_le_succ (Nat.zero_le _))]
      rfl
    have s2 : exe g (.forr (.nm 6) (.tup (.ix (.var 0) (.cst (.int 1)))) bWayIn) [some (.d (flD fl)), x1, some (.d (rolD rl)), some (.ownd false (fdD f)), some (.own (strsD row)), some (.d (.str here)), x6] k = .nx [some (.d (flD fl)), x1, some (.d (rolD rl)), some (.ownd false (fdD (f ++ new))), some (.own (strsD (row ++ new.map (·.1)))), some (.d (.str here)), x6'] k := by
      have q : evi g (.tup (.ix (.var 0) (.cst (.int 1)))) [some (.d (flD fl)), x1, some (.d (rolD rl)), some (.ownd false (fdD f)), some (.own (strsD row)), some (.d (.str here)), x6] k = .ok (fl.moves.map mvD, k) := by
        simp only [exes, exe, ev, evs, evi, go_ok, go_nx, bind_ok, pure_ok, of_some, at_ok, List.getElem?_cons_succ, List.getElem?_cons_zero, List.set_cons_succ, List.set_cons_zero, putS, setSV, kdOf, anyTr, lawIn, isTr, trI, List.length_cons, List.length_nil, wipeOk, List.all_cons, List.all_nil, wipeR, bindT, bindTs, Option.bind_some, isOmit, endOf, intOf, getL, getT, getK, getR, parOk, parS, ne_eq, not_false_eq_true, reduceCtorEq, decide_false, decide_true, Bool.or_false, Bool.false_or, Bool.or_true, Bool.true_or, Bool.and_true, Bool.true_and, Bool.not_true, Bool.not_false, Bool.false_eq_true, if_true, if_false, ite_true, ite_false, if_pos, Nat.reduceLT, Nat.reduceAdd, ↓reduceIte, tst, truD, Bool.and_self, Bool.and_false, Bool.false_and, Nat.lt_add_one, Nat.zero_lt_succ, Nat.lt_irrefl, fl_at.2]
      unfold exe
      rw [q]
      exact e3
    unfold bWayOut
    rw [exes_cons, s1, go_nx, exes_cons, s2, go_nx]
    rfl
def waysF (fl : Flow) (st : Str) (rl : Option (List Str)) : Fd := wayLoop fl rl 1000 [(st, [])] [st]
theorem waysF_ok {g : G} (hm : MayOk (g.fn 0)) (hfu : g.fuel = 1000) {fl : Flow} (ho : FlowOk fl) {st : Str} (hst : st ∈ nmsOf fl) {rl : Option (List Str)} : Ways fl rl st (waysF fl st rl) ∧ runD g 3 4 bWays [flD fl, .str st, rolD rl] = .ok (.dict (fdD (waysF fl st rl))) := by
  have w0 : BInv fl rl st [(st, [])] [st] := {
    nd := by simp
    sub := by simpa using hst
    begin := if_pos rfl
    path := fun q hq => by
      rw [List.mem_singleton.mp hq]
      exact .nil
    len := by simp
    has := by simp [fget]
    rise := by simp
    all := fun h _ q hq => by
      rw [List.mem_singleton.mp hq]
      exact Nat.zero_le _
    done := fun q hq h => by
      rw [List.mem_singleton.mp hq] at h
      simp at h }
  obtain ⟨z5, z6, c1, c2⟩ := wayOut_run hm ho (x1 := some (.d (.str st))) (rl := rl) (k := 0) 1000 [(st, [])] [st] none none w0 (by simp) (by simp)
  refine ⟨c2.ways, runD_rt rfl rfl (k := 0) ?_⟩
  show exes g bWays [some (.d (flD fl)), some (.d (.str st)), some (.d (rolD rl)), none, none, none, none] 0 = _
  have s1 : exe g (.par [(3, true), (4, true)] (.cons (.dct (.cons (.var 1) (.cons (.tup .nil) .nil))) (.cons (.lst (.cons (.var 1) .nil)) .nil))) [some (.d (flD fl)), some (.d (.str st)), some (.d (rolD rl)), none, none, none, none] 0 = .nx [some (.d (flD fl)), some (.d (.str st)), some (.d (rolD rl)), some (.ownd false (fdD [(st, [])])), some (.own (strsD [st])), none, none] 0 := rfl
  have s2 : exe g (.whl (.var 4) bWayOut) [some (.d (flD fl)), some (.d (.str st)), some (.d (rolD rl)), some (.ownd false (fdD [(st, [])])), some (.own (strsD [st])), none, none] 0 = .nx [some (.d (flD fl)), some (.d (.str st)), some (.d (rolD rl)), some (.ownd false (fdD (waysF fl st rl))), some (.own []), z5, z6] 0 := by
    unfold exe
    rw [hfu]
    exact c1
  unfold bWays
  rw [exes_cons, s1, go_nx, exes_cons, s2, go_nx, exes_cons]
  simp only [exes, exe, ev, evs, evi, go_ok, go_nx, bind_ok, pure_ok, of_some, at_ok, List.getElem?_cons_succ, List.getElem?_cons_zero, List.set_cons_succ, List.set_cons_zero, putS, setSV, kdOf, anyTr, lawIn, isTr, trI, List.length_cons, List.length_nil, wipeOk, List.all_cons, List.all_nil, wipeR, bindT, bindTs, Option.bind_some, isOmit, endOf, intOf, getL, getT, getK, getR, parOk, parS, ne_eq, not_false_eq_true, reduceCtorEq, decide_false, decide_true, Bool.or_false, Bool.false_or, Bool.or_true, Bool.true_or, Bool.and_true, Bool.true_and, Bool.not_true, Bool.not_false, Bool.false_eq_true, if_true, if_false, ite_true, ite_false, if_pos, Nat.reduceLT, Nat.reduceAdd, ↓reduceIte, tst, truD, Bool.and_self, Bool.and_false, Bool.false_and, Nat.lt_add_one, Nat.zero_lt_succ, Nat.lt_irrefl, fd_kind]
  rfl
end Y

namespace Y
open PySem PySem.W PySem.Spec PyProof.Rows L2
/-! ### comprehensions, in general -/
theorem comp_run {α : Type} {enc : α → D} {bnd : D → Option Rho} {t : Rho → Nat → R (Bool × Nat)} {elt : Rho → Nat → R (D × Nat)} {ρ : α → Rho} {p : α → Bool} {f : α → D} {k : Nat} : ∀ (l : List α), (∀ a ∈ l, bnd (enc a) = some (ρ a)) → (∀ a ∈ l, t (ρ a) k = .ok (p a, k)) → (∀ a ∈ l, p a = true → elt (ρ a) k = .ok (f a, k)) → compL bnd t elt (l.map enc) k = .ok ((l.filter p).map f, k)
  | [], _, _, _ => rfl
  | a :: l, h1, h2, h3 => by
    have ih := comp_run (enc := enc) (bnd := bnd) (t := t) (elt := elt) (k := k) l (fun b hb => h1 b (List.mem_cons_of_mem _ hb)) (fun b hb => h2 b (List.mem_cons_of_mem _ hb)) fun b hb => h3 b (List.mem_cons_of_mem _ hb)
    have b1 := h1 a (List.mem_cons_self ..)
    have b2 := h2 a (List.mem_cons_self ..)
    rw [List.map_cons]
    cases hp : p a with
    | true =>
      rw [hp] at b2
      rw [List.filter_cons_of_pos hp, List.map_cons]
      exact compL_t b1 b2 (h3 a (List.mem_cons_self ..) hp) ih
    | false =>
      rw [hp] at b2
      rw [List.filter_cons_of_neg (by rw [hp]; simp)]
      exact compL_f b1 b2 ih
theorem ev_comp {α : Type} {g : G} {own : List Nat} {tg : Tg} {it : It} {c elt : E} {ρ0 : Rho} {k : Nat} (l : List α) (enc : α → D) (ρ : α → Rho) (p : α → Bool) (f : α → D) (hw : wipeOk ρ0 own = true) (hi : evi g it ρ0 k = .ok (l.map enc, k))
    (hb : ∀ a ∈ l, bindT tg (enc a) (wipeR ρ0 own) = some (ρ a)) (ht : ∀ a ∈ l, tstR (ev g c (ρ a) k) = .ok (p a, k)) (he : ∀ a ∈ l, p a = true → kdOf (ρ a) elt ≠ .tr ∧ ev g elt (ρ a) k = .ok (f a, k)) :
    ev g (.comp own tg it c elt) ρ0 k = .ok (.list ((l.filter p).map f), k) := by
  unfold ev
  rw [hw, hi, bind_ok]
  dsimp only
  rw [comp_run (ρ := ρ) (p := p) (f := f) l hb ht, bind_ok]
  · rfl
  · intro a ha hp
    obtain ⟨h1, h2⟩ := he a ha hp
    rw [if_neg h1, h2]
    rfl
theorem tstR_ok {x : D} {b : Bool} {k : Nat} {r : R (D × Nat)} (h : r = .ok (x, k)) (hb : truD x = some b) : tstR r = .ok (b, k) := by
  rw [h]
  unfold tstR R.nox
  rw [bind_ok, hb]
  rfl
theorem tstB {b : Bool} {k : Nat} {r : R (D × Nat)} (h : r = .ok (.bool b, k)) : tstR r = .ok (b, k) := tstR_ok h rfl
/-- a comprehension without an if -/
theorem ev_compA {α : Type} {g : G} {own : List Nat} {tg : Tg} {it : It} {elt : E} {ρ0 : Rho} {k : Nat} (l : List α) (enc : α → D) (ρ : α → Rho) (f : α → D) (hw : wipeOk ρ0 own = true) (hi : evi g it ρ0 k = .ok (l.map enc, k))
    (hb : ∀ a ∈ l, bindT tg (enc a) (wipeR ρ0 own) = some (ρ a)) (he : ∀ a ∈ l, kdOf (ρ a) elt ≠ .tr ∧ ev g elt (ρ a) k = .ok (f a, k)) :
    ev g (.comp own tg it (.cst (.bool true)) elt) ρ0 k = .ok (.list (l.map f), k) := by
  have := ev_comp (g := g) (own := own) (tg := tg) (it := it) (c := .cst (.bool true)) (elt := elt) (ρ0 := ρ0) (k := k) l enc ρ (fun _ => true) f hw hi hb (fun _ _ => rfl) fun a ha _ => he a ha
  rwa [List.filter_eq_self.mpr fun _ _ => rfl] at this
/-! ### led by words -/
def ledF (fl : Flow) (rl : Option (List Str)) : List Str → Str → Option Str
  | [], s => some s
  | w :: ws, s => if w ∈ movesOf s rl fl.moves then (match goalIn s w fl.moves with
      | some z => ledF fl rl ws z
      | none => none) else none
theorem movesOf_mem {st w : Str} {rl : Option (List Str)} : ∀ {l : List Mv}, w ∈ movesOf st rl l ↔ ∃ m ∈ l, m.beg = st ∧ m.word = w ∧ mayDo m rl = true
  | [] => by simp [movesOf]
  | m :: l => by
    unfold movesOf
    by_cases h : m.beg = st ∧ mayDo m rl = true
    · rw [if_pos h, List.mem_cons, movesOf_mem]
      constructor
      · rintro (rfl | ⟨m', h1, h2⟩)
        · exact ⟨m, List.mem_cons_self .., h.1, rfl, h.2⟩
        · exact ⟨m', List.mem_cons_of_mem _ h1, h2⟩
      · rintro ⟨m', h1, h2, h3, h4⟩
        rcases List.mem_cons.mp h1 with e | e
        · subst e; exact .inl h3.symm
        · exact .inr ⟨m', e, h2, h3, h4⟩
    · rw [if_neg h, movesOf_mem]
      constructor
      · rintro ⟨m', h1, h2⟩
        exact ⟨m', List.mem_cons_of_mem _ h1, h2⟩
      · rintro ⟨m', h1, h2, h3, h4⟩
        rcases List.mem_cons.mp h1 with e | e
        · subst e; exact absurd ⟨h2, h4⟩ h
        · exact ⟨m', e, h2, h3, h4⟩
theorem goalIn_of {st w : Str} : ∀ {l : List Mv}, (l.map fun m => (m.word, m.beg)).Nodup → ∀ m ∈ l, m.beg = st → m.word = w → goalIn st w l = some m.goal
  | [], _, m, h, _, _ => by cases h
  | a :: l, nd, m, h, h1, h2 => by
    rw [List.map_cons, List.nodup_cons] at nd
    unfold goalIn
    rcases List.mem_cons.mp h with e | e
    · subst e
      rw [if_pos (by rw [h1, h2])]
    · rw [if_neg]
      · exact goalIn_of nd.2 m e h1 h2
      · intro z
        apply nd.1
        rw [z]
        exact List.mem_map.mpr ⟨m, e, by rw [h1, h2]⟩
theorem mvd_iff {fl : Flow} (ho : FlowOk fl) {rl : Option (List Str)} {x w y : Str} : Mvd fl rl x w y ↔ w ∈ movesOf x rl fl.moves ∧ goalIn x w fl.moves = some y := by
  constructor
  · rintro ⟨m, hm, h1, h2, h3, h4⟩
    exact ⟨movesOf_mem.mpr ⟨m, hm, h1, h2, h4⟩, by rw [goalIn_of ho.once m hm h1 h2, h3]⟩
  · rintro ⟨h1, h2⟩
    obtain ⟨m, hm, a1, a2, a3⟩ := movesOf_mem.mp h1
    rw [goalIn_of ho.once m hm a1 a2] at h2
    exact ⟨m, hm, a1, a2, Option.some.inj h2, a3⟩
theorem ledF_cons {fl : Flow} (ho : FlowOk fl) {rl : Option (List Str)} {x w z : Str} {ws : List Str} : ledF fl rl (w :: ws) x = some z ↔ ∃ y, Mvd fl rl x w y ∧ ledF fl rl ws y = some z := by
  have e : ∀ y, Mvd fl rl x w y ↔ _ := fun y => mvd_iff ho
  have hd : ledF fl rl (w :: ws) x = if w ∈ movesOf x rl fl.moves then (match goalIn x w fl.moves with
      | some z => ledF fl rl ws z
      | none => none) else none := rfl
  rw [hd]
  by_cases h : w ∈ movesOf x rl fl.moves
  · rw [if_pos h]
    cases hg : goalIn x w fl.moves with
    | none =>
      constructor
      · intro z; cases z
      · rintro ⟨y, h1, _⟩
        rw [e, hg] at h1
        cases h1.2
    | some y =>
      constructor
      · intro hz
        exact ⟨y, (e y).mpr ⟨h, hg⟩, hz⟩
      · rintro ⟨y', h1, h2⟩
        rw [e, hg] at h1
        cases h1.2
        exact h2
  · rw [if_neg h]
    constructor
    · intro z; cases z
    · rintro ⟨y, h1, _⟩
      exact absurd ((e y).mp h1).1 h
theorem Led.cons {fl : Flow} {rl : Option (List Str)} {x w y z : Str} {ws : List Str} (h1 : Mvd fl rl x w y) (h : Led fl rl y ws z) : Led fl rl x (w :: ws) z := by
  induction h with
  | nil => exact .snoc (ws := []) .nil h1
  | snoc _ hm ih => exact .snoc ih hm
theorem Led.trans {fl : Flow} {rl : Option (List Str)} {x y z : Str} {ws vs : List Str} (h1 : Led fl rl x ws y) (h : Led fl rl y vs z) : Led fl rl x (ws ++ vs) z := by
  induction h with
  | nil => rw [List.append_nil]; exact h1
  | snoc _ hm ih => rw [← List.append_assoc]; exact .snoc ih hm
theorem ledF_snoc {fl : Flow} (ho : FlowOk fl) {rl : Option (List Str)} {w y z : Str} : ∀ {ws : List Str} {x : Str}, ledF fl rl ws x = some y → Mvd fl rl y w z → ledF fl rl (ws ++ [w]) x = some z
  | [], x, h, hm => by
    have e : x = y := Option.some.inj h
    subst e
    exact (ledF_cons ho).mpr ⟨z, hm, rfl⟩
  | a :: ws, x, h, hm => by
    obtain ⟨u, h1, h2⟩ := (ledF_cons ho).mp h
    exact (ledF_cons ho).mpr ⟨u, h1, ledF_snoc ho h2 hm⟩
theorem led_iff {fl : Flow} (ho : FlowOk fl) {rl : Option (List Str)} {x z : Str} {ws : List Str} : Led fl rl x ws z ↔ ledF fl rl ws x = some z := by
  constructor
  · intro h
    induction h with
    | nil => rfl
    | snoc _ hm ih => exact ledF_snoc ho ih hm
  · intro h
    induction ws generalizing x with
    | nil =>
      have e : x = z := Option.some.inj h
      subst e
      exact .nil
    | cons w ws ih =>
      obtain ⟨u, h1, h2⟩ := (ledF_cons ho).mp h
      exact .cons h1 (ih h2)
theorem Led.more {fl : Flow} {rl : Option (List Str)} {x z : Str} {ws : List Str} (h : Led fl rl x ws z) : Led fl none x ws z := by
  induction h with
  | nil => exact .nil
  | snoc _ hm ih =>
    obtain ⟨m, hm, h1, h2, h3, _⟩ := hm
    exact .snoc ih ⟨m, hm, h1, h2, h3, rfl⟩
theorem Mvd.goal_in {fl : Flow} (ho : FlowOk fl) {rl : Option (List Str)} {x w y : Str} (h : Mvd fl rl x w y) : y ∈ nmsOf fl := by
  obtain ⟨m, hm, _, _, h3, _⟩ := h
  rw [← h3]
  exact (ho.mv m hm).2.1
theorem Led.in {fl : Flow} (ho : FlowOk fl) {rl : Option (List Str)} {x z : Str} {ws : List Str} (h : Led fl rl x ws z) (hx : x ∈ nmsOf fl) : z ∈ nmsOf fl := by
  cases h with
  | nil => exact hx
  | snoc _ hm => exact hm.goal_in ho
/-! ### way, reach, natively -/
def wayN (fl : Flow) (st z : Str) (rl : Option (List Str)) : Option (List Str) := fget (waysF fl st rl) z
def reachN (fl : Flow) (st : Str) (rl : Option (List Str)) : List Str := (nmsOf fl).filter fun x => (wayN fl st x rl).isSome
structure WaysT (f : List D → R D) : Prop where
  run : ∀ fl st rl, FlowOk fl → st ∈ nmsOf fl → f [flD fl, .str st, rolD rl] = .ok (.dict (fdD (waysF fl st rl)))
theorem ways_spec {fl : Flow} (ho : FlowOk fl) {st : Str} (hst : st ∈ nmsOf fl) {rl : Option (List Str)} : Ways fl rl st (waysF fl st rl) := by
  let g0 : G := ⟨fun _ ds => match ds with
    | [m, r] => runD ⟨fun _ _ => .no, fun _ _ _ => .no, fun _ => .none, fun _ => 0, 0, fun _ => [], .none⟩ 2 1 bMay [m, r]
    | _ => .no, fun _ _ _ => .no, fun _ => .none, fun _ => 0, 1000, fun _ => [], .none⟩
  exact (waysF_ok (g := g0) (fun m rl => may_ok) rfl ho hst).1
theorem wayN_some {fl : Flow} (ho : FlowOk fl) {st z : Str} (hst : st ∈ nmsOf fl) {rl : Option (List Str)} {p : List Str} (h : wayN fl st z rl = some p) : Led fl rl st p z := (ways_spec ho hst).path _ _ h
theorem wayN_short {fl : Flow} (ho : FlowOk fl) {st z : Str} (hst : st ∈ nmsOf fl) {rl : Option (List Str)} {p : List Str} (h : wayN fl st z rl = some p) : p.length ≤ 6 := by
  have w := ways_spec ho hst (rl := rl)
  have h1 := w.short _ _ h
  have h2 := w.nd.length_le_of_subset (l₂ := nmsOf fl) w.sub
  rw [List.length_map] at h2
  have h3 : (nmsOf fl).length ≤ 6 := by unfold nmsOf; rw [List.length_map]; exact ho.few
  omega
theorem wayN_full {fl : Flow} (ho : FlowOk fl) {st z : Str} (hst : st ∈ nmsOf fl) {rl : Option (List Str)} {w : List Str} (h : Led fl rl st w z) : ∃ p, wayN fl st z rl = some p ∧ p.length ≤ w.length := (ways_spec ho hst).full _ _ h
theorem wayN_iff {fl : Flow} (ho : FlowOk fl) {st z : Str} (hst : st ∈ nmsOf fl) {rl : Option (List Str)} : (wayN fl st z rl).isSome = true ↔ ∃ w, Led fl rl st w z := by
  constructor
  · intro h
    obtain ⟨p, hp⟩ := Option.isSome_iff_exists.mp h
    exact ⟨p, wayN_some ho hst hp⟩
  · rintro ⟨w, h⟩
    obtain ⟨p, hp, _⟩ := wayN_full ho hst h
    rw [hp]; rfl
theorem reachN_iff {fl : Flow} (ho : FlowOk fl) {st z : Str} (hst : st ∈ nmsOf fl) {rl : Option (List Str)} : z ∈ reachN fl st rl ↔ ∃ w, Led fl rl st w z := by
  unfold reachN
  rw [List.mem_filter]
  have := wayN_iff ho hst (z := z) (rl := rl)
  constructor
  · intro h
    exact this.mp h.2
  · rintro ⟨w, h⟩
    exact ⟨h.in ho hst, this.mpr ⟨w, h⟩⟩
theorem wayN_self {fl : Flow} (ho : FlowOk fl) {st : Str} (hst : st ∈ nmsOf fl) {rl : Option (List Str)} : wayN fl st st rl = some [] := by
  obtain ⟨p, hp, hl⟩ := wayN_full ho hst (.nil : Led fl rl st [] st)
  rw [hp, List.length_eq_zero_iff.mp (Nat.le_zero.mp hl)]
end Y

namespace Y
open PySem PySem.W PySem.Spec PyProof.Rows L2
/-! ### the defs of flows, run -/
def MvsT (f : List D → R D) : Prop := ∀ fl st rl, f [flD fl, .str st, rolD rl] = .ok (.tuple (strsD (movesOf st rl fl.moves)))
def GoalT (f : List D → R D) : Prop := ∀ fl st w, f [flD fl, .str st, .str w] = .ok (strO (goalIn st w fl.moves))
theorem ways_run {g : G} (hm : MayOk (g.fn 0)) (hfu : g.fuel = 1000) : WaysT (runD g 3 4 bWays) := ⟨fun _ _ _ ho hst => (waysF_ok hm hfu ho hst).2⟩
def WayT (f : List D → R D) : Prop := ∀ fl st z rl, FlowOk fl → st ∈ nmsOf fl → f [flD fl, .str st, .str z, rolD rl] = .ok (pO (wayN fl st z rl))
theorem way_run {g : G} (hw : WaysT (g.fn 0)) : WayT (runD g 4 0 bWay) := fun fl st z rl ho hst => by
  have e := hw.run fl st rl ho hst
  refine runD_rt rfl rfl (k := 0) ?_
  show exes g bWay [some (.d (flD fl)), some (.d (.str st)), some (.d (.str z)), some (.d (rolD rl))] 0 = _
  simp only [exes_cons, exes_nil, exe, ev, evs, evi, go_ok, go_nx, bind_ok, pure_ok, of_some, at_ok, List.getElem?_cons_succ, List.getElem?_cons_zero, List.set_cons_succ, List.set_cons_zero, putS, setSV, kdOf, anyTr, lawIn, isTr, trI, List.length_cons, List.length_nil, wipeOk, List.all_cons, List.all_nil, wipeR, Option.bind_some, isOmit, endOf, intOf, getL, getT, getK, parOk, parS, ne_eq, not_false_eq_true, reduceCtorEq, decide_false, decide_true, Bool.or_false, Bool.false_or, Bool.or_true, Bool.true_or, Bool.and_true, Bool.true_and, Bool.not_true, Bool.not_false, Bool.false_eq_true, if_true, if_false, ite_true, ite_false, if_pos, Nat.reduceLT, Nat.reduceAdd, ↓reduceIte, tst, truD, Bool.and_self, Bool.and_false, Bool.false_and, Nat.lt_add_one, Nat.zero_lt_succ, Nat.lt_irrefl, List.append_nil, List.cons_append, List.nil_append, bWay, e, fd_mt, rcv]
  rfl
def ReachT (f : List D → R D) : Prop := ∀ fl st rl, FlowOk fl → st ∈ nmsOf fl → f [flD fl, .str st, rolD rl] = .ok (.tuple (strsD (reachN fl st rl)))
theorem reach_run {g : G} (hw : WaysT (g.fn 0)) : ReachT (runD g 3 3 bReach) := fun fl st rl ho hst => by
  have e := hw.run fl st rl ho hst
  refine runD_rt rfl rfl (k := 0) ?_
  show exes g bReach [some (.d (flD fl)), some (.d (.str st)), some (.d (rolD rl)), none, none, none] 0 = _
  have e5 : ev g (.comp [4, 5] (.tp (.cons (.nm 4) (.cons (.nm 5) .nil))) (.tup (.ix (.var 0) (.cst (.int 0)))) (.cmp .In (.var 4) (.var 3)) (.var 4)) [some (.d (flD fl)), some (.d (.str st)), some (.d (rolD rl)), some (.d (.dict (fdD (waysF fl st rl)))), none, none] 0 = .ok (.list (strsD (reachN fl st rl)), 0) := by
    have h := ev_comp (g := g) (own := [4, 5]) (tg := .tp (.cons (.nm 4) (.cons (.nm 5) .nil))) (it := .tup (.ix (.var 0) (.cst (.int 0)))) (c := .cmp .In (.var 4) (.var 3)) (elt := .var 4) (ρ0 := [some (.d (flD fl)), some (.d (.str st)), some (.d (rolD rl)), some (.d (.dict (fdD (waysF fl st rl)))), none, none]) (k := 0)
      fl.states pairD (fun q => [some (.d (flD fl)), some (.d (.str st)), some (.d (rolD rl)), some (.d (.dict (fdD (waysF fl st rl)))), some (.d (.str q.1)), some (.d (.str q.2))]) (fun q => (wayN fl st q.1 rl).isSome) (fun q => .str q.1) rfl (by simp only [exes_cons, exes_nil, exe, ev, evs, evi, go_ok, go_nx, bind_ok, pure_ok, of_some, at_ok, List.getElem?_cons_succ, List.getElem?_cons_zero, List.set_cons_succ, List.set_cons_zero, putS, setSV, kdOf, anyTr, lawIn, isTr, trI, List.length_cons, List.length_nil, wipeOk, List.all_cons, List.all_nil, wipeR, Option.bind_some, isOmit, endOf, intOf, getL, getT, getK, parOk, parS, ne_eq, not_false_eq_true, reduceCtorEq, decide_false, decide_true, Bool.or_false, Bool.false_or, Bool.or_true, Bool.true_or, Bool.and_true, Bool.true_and, Bool.not_true, Bool.not_false, Bool.false_eq_true, if_true, if_false, ite_true, ite_false, if_pos, Nat.reduceLT, Nat.reduceAdd, ↓reduceIte, tst, truD, Bool.and_self, Bool.and_false, Bool.false_and, Nat.lt_add_one, Nat.zero_lt_succ, Nat.lt_irrefl, List.append_nil, List.cons_append, List.nil_append, fl_at.1]) (fun _ _ => rfl) (fun q _ => tstB (by simp only [exes_cons, exes_nil, exe, ev, evs, evi, go_ok, go_nx, bind_ok, pure_ok, of_some, at_ok, List.getElem?_cons_succ, List.getElem?_cons_zero, List.set_cons_succ, List.set_cons_zero, putS, setSV, kdOf, anyTr, lawIn, isTr, trI, List.length_cons, List.length_nil, wipeOk, List.all_cons, List.all_nil, wipeR, Option.bind_some, isOmit, endOf, intOf, getL, getT, getK, parOk, parS, ne_eq, not_false_eq_true, reduceCtorEq, decide_false, decide_true, Bool.or_false, Bool.false_or, Bool.or_true, Bool.true_or, Bool.and_true, Bool.true_and, Bool.not_true, Bool.not_false, Bool.false_eq_true, if_true, if_false, ite_true, ite_false, if_pos, Nat.reduceLT, Nat.reduceAdd, ↓reduceIte, tst, truD, Bool.and_self, Bool.and_false, Bool.false_and, Nat.lt_add_one, Nat.zero_lt_succ, Nat.lt_irrefl, List.append_nil, List.cons_append, List.nil_append, fd_in']; rfl)) (fun q _ _ => ⟨by simp [kdOf], rfl⟩)
    rw [h]
    unfold reachN nmsOf strsD
    rw [List.filter_map, List.map_map]
    rfl
  have s1 : exe g (.set 3 false (.call 0 (.cons (.var 0) (.cons (.var 1) (.cons (.var 2) .nil))) .nil)) [some (.d (flD fl)), some (.d (.str st)), some (.d (rolD rl)), none, none, none] 0 = .nx [some (.d (flD fl)), some (.d (.str st)), some (.d (rolD rl)), some (.d (.dict (fdD (waysF fl st rl)))), none, none] 0 := by
    simp only [exes_cons, exes_nil, exe, ev, evs, evi, go_ok, go_nx, bind_ok, pure_ok, of_some, at_ok, List.getElem?_cons_succ, List.getElem?_cons_zero, List.set_cons_succ, List.set_cons_zero, putS, setSV, kdOf, anyTr, lawIn, isTr, trI, List.length_cons, List.length_nil, wipeOk, List.all_cons, List.all_nil, wipeR, Option.bind_some, isOmit, endOf, intOf, getL, getT, getK, parOk, parS, ne_eq, not_false_eq_true, reduceCtorEq, decide_false, decide_true, Bool.or_false, Bool.false_or, Bool.or_true, Bool.true_or, Bool.and_true, Bool.true_and, Bool.not_true, Bool.not_false, Bool.false_eq_true, if_true, if_false, ite_true, ite_false, if_pos, Nat.reduceLT, Nat.reduceAdd, ↓reduceIte, tst, truD, Bool.and_self, Bool.and_false, Bool.false_and, Nat.lt_add_one, Nat.zero_lt_succ, Nat.lt_irrefl, List.append_nil, List.cons_append, List.nil_append, e]
  unfold bReach
  rw [exes_cons, s1, go_nx, exes_cons]
  unfold exe ev
  rw [e5, bind_ok]
  rfl
/-! led -/
def law_led_l1 : Ss := (.cons (.iff (.cmp .NotIn (.var 4) (.call 0 (.cons (.var 0) (.cons (.var 1) .nil)) (.cons (.var 3) .nil))) (.cons (.ret (.cst .none))
      .nil) .nil)
      (.cons (.set 1 false (.call 1 (.cons (.var 0) (.cons (.var 1) (.cons (.var 4) .nil))) .nil))
      .nil))
def law_led_b : Ss :=
      (.cons (.forr (.nm 4) (.tup (.var 2)) law_led_l1)
      (.cons (.ret (.var 1))
      .nil))
def LedT (f : List D → R D) : Prop := ∀ fl st ws rl, FlowOk fl → f [flD fl, .str st, .tuple (strsD ws), rolD rl] = .ok (strO (ledF fl rl ws st))
theorem led_loop {g : G} (hm : MvsT (g.fn 0)) (hg : GoalT (g.fn 1)) {fl : Flow} (ho : FlowOk fl) {rl : Option (List Str)} {x2 : Option SV} {k : Nat} : ∀ (ws : List Str) (st : Str) (x4 : Option SV),
    (∀ z, ledF fl rl ws st = some z → ∃ x4', forL (bindT (.nm 4)) (exes g law_led_l1) (strsD ws) [some (.d (flD fl)), some (.d (.str st)), x2, some (.d (rolD rl)), x4] k = .nx [some (.d (flD fl)), some (.d (.str z)), x2, some (.d (rolD rl)), x4'] k) ∧
    (ledF fl rl ws st = none → forL (bindT (.nm 4)) (exes g law_led_l1) (strsD ws) [some (.d (flD fl)), some (.d (.str st)), x2, some (.d (rolD rl)), x4] k = .rt .none k)
  | [], st, x4 => ⟨fun z h => by cases h; exact ⟨x4, rfl⟩, fun h => by cases h⟩
  | w :: ws, st, x4 => by
    have e1 := hm fl st rl
    have e2 := hg fl st w
    have hd : ledF fl rl (w :: ws) st = if w ∈ movesOf st rl fl.moves then (match goalIn st w fl.moves with
      | some z => ledF fl rl ws z
      | none => none) else none := rfl
    rw [strsD_cons, hd]
    by_cases h : w ∈ movesOf st rl fl.moves
    · obtain ⟨m, hmm, h1, h2, h3⟩ := movesOf_mem.mp h
      have hgo := goalIn_of ho.once m hmm h1 h2
      rw [if_pos h, hgo]
      rw [hgo] at e2
      have ih := led_loop hm hg ho (rl := rl) (x2 := x2) (k := k) ws m.goal (some (.d (.str w)))
      have hi : (!decide (w ∈ movesOf st rl fl.moves)) = false := by rw [decide_eq_true h]; rfl
      have s : exes g law_led_l1 [some (.d (flD fl)), some (.d (.str st)), x2, some (.d (rolD rl)), some (.d (.str w))] k = .nx [some (.d (flD fl)), some (.d (.str m.goal)), x2, some (.d (rolD rl)), some (.d (.str w))] k := by
        simp only [exes_cons, exes_nil, exe, ev, evs, evi, go_ok, go_nx, bind_ok, pure_ok, of_some, at_ok, List.getElem?_cons_succ, List.getElem?_cons_zero, List.set_cons_succ, List.set_cons_zero, putS, setSV, kdOf, anyTr, lawIn, isTr, trI, List.length_cons, List.length_nil, wipeOk, List.all_cons, List.all_nil, wipeR, Option.bind_some, isOmit, endOf, intOf, getL, getT, getK, parOk, parS, ne_eq, not_false_eq_true, reduceCtorEq, decide_false, decide_true, Bool.or_false, Bool.false_or, Bool.or_true, Bool.true_or, Bool.and_true, Bool.true_and, Bool.not_true, Bool.not_false, Bool.false_eq_true, if_true, if_false, ite_true, ite_false, if_pos, Nat.reduceLT, Nat.reduceAdd, ↓reduceIte, tst, truD, Bool.and_self, Bool.and_false, Bool.false_and, Nat.lt_add_one, Nat.zero_lt_succ, Nat.lt_irrefl, List.append_nil, List.cons_append, List.nil_append, law_led_l1, e1, e2, notIn_tup, hi, strO]
      refine ⟨fun z hz => ?_, fun hz => forL_nx rfl s (ih.2 hz)⟩
      obtain ⟨x4', e⟩ := ih.1 z hz
      exact ⟨x4', forL_nx rfl s e⟩
    · rw [if_neg h]
      have hi : (!decide (w ∈ movesOf st rl fl.moves)) = true := by rw [decide_eq_false h]; rfl
      refine ⟨fun z hz => (by cases hz), fun _ => forL_rt (ρ1 := [some (.d (flD fl)), some (.d (.str st)), x2, some (.d (rolD rl)), some (.d (.str w))]) rfl ?_⟩
      simp only [exes_cons, exes_nil, exe, ev, evs, evi, go_ok, go_nx, bind_ok, pure_ok, of_some, at_ok, List.getElem?_cons_succ, List.getElem?_cons_zero, List.set_cons_succ, List.set_cons_zero, putS, setSV, kdOf, anyTr, lawIn, isTr, trI, List.length_cons, List.length_nil, wipeOk, List.all_cons, List.all_nil, wipeR, Option.bind_some, isOmit, endOf, intOf, getL, getT, getK, parOk, parS, ne_eq, not_false_eq_true, reduceCtorEq, decide_false, decide_true, Bool.or_false, Bool.false_or, Bool.or_true, Bool.true_or, Bool.and_true, Bool.true_and, Bool.not_true, Bool.not_false, Bool.false_eq_true, if_true, if_false, ite_true, ite_false, if_pos, Nat.reduceLT, Nat.reduceAdd, ↓reduceIte, tst, truD, Bool.and_self, Bool.and_false, Bool.false_and, Nat.lt_add_one, Nat.zero_lt_succ, Nat.lt_irrefl, List.append_nil, List.cons_append, List.nil_append, law_led_l1, e1, notIn_tup, hi]
      rfl
theorem led_run {g : G} (hm : MvsT (g.fn 0)) (hg : GoalT (g.fn 1)) : LedT (runD g 4 1 law_led_b) := fun fl st ws rl ho => by
  have h := led_loop hm hg ho (rl := rl) (x2 := some (.d (.tuple (strsD ws)))) (k := 0) ws st none
  refine runD_rt rfl rfl (k := 0) ?_
  show exes g law_led_b [some (.d (flD fl)), some (.d (.str st)), some (.d (.tuple (strsD ws))), some (.d (rolD rl)), none] 0 = _
  cases hz : ledF fl rl ws st with
  | none =>
    have h := h.2 hz
    simp only [exes_cons, exes_nil, exe, ev, evs, evi, go_ok, go_nx, bind_ok, pure_ok, of_some, at_ok, List.getElem?_cons_succ, List.getElem?_cons_zero, List.set_cons_succ, List.set_cons_zero, putS, setSV, kdOf, anyTr, lawIn, isTr, trI, List.length_cons, List.length_nil, wipeOk, List.all_cons, List.all_nil, wipeR, Option.bind_some, isOmit, endOf, intOf, getL, getT, getK, parOk, parS, ne_eq, not_false_eq_true, reduceCtorEq, decide_false, decide_true, Bool.or_false, Bool.false_or, Bool.or_true, Bool.true_or, Bool.and_true, Bool.true_and, Bool.not_true, Bool.not_false, Bool.false_eq_true, if_true, if_false, ite_true, ite_false, if_pos, Nat.reduceLT, Nat.reduceAdd, ↓reduceIte, tst, truD, Bool.and_self, Bool.and_false, Bool.false_and, Nat.lt_add_one, Nat.zero_lt_succ, Nat.lt_irrefl, List.append_nil, List.cons_append, List.nil_append, law_led_b, h]
    rfl
  | some z =>
    obtain ⟨x4', e⟩ := h.1 z hz
    simp only [exes_cons, exes_nil, exe, ev, evs, evi, go_ok, go_nx, bind_ok, pure_ok, of_some, at_ok, List.getElem?_cons_succ, List.getElem?_cons_zero, List.set_cons_succ, List.set_cons_zero, putS, setSV, kdOf, anyTr, lawIn, isTr, trI, List.length_cons, List.length_nil, wipeOk, List.all_cons, List.all_nil, wipeR, Option.bind_some, isOmit, endOf, intOf, getL, getT, getK, parOk, parS, ne_eq, not_false_eq_true, reduceCtorEq, decide_false, decide_true, Bool.or_false, Bool.false_or, Bool.or_true, Bool.true_or, Bool.and_true, Bool.true_and, Bool.not_true, Bool.not_false, Bool.false_eq_true, if_true, if_false, ite_true, ite_false, if_pos, Nat.reduceLT, Nat.reduceAdd, ↓reduceIte, tst, truD, Bool.and_self, Bool.and_false, Bool.false_and, Nat.lt_add_one, Nat.zero_lt_succ, Nat.lt_irrefl, List.append_nil, List.cons_append, List.nil_append, law_led_b, e]
    rfl
/-! sort_of -/
def sort_of_c1 : E := (.comp [2, 3] (.tp (.cons (.nm 2) (.cons (.nm 3) .nil))) (.tup (.ix (.var 0) (.cst (.int 0)))) (.cmp .Eq (.var 2) (.var 1)) (.var 3))
def sort_of_b : Ss :=
      (.cons (.ret (.ix sort_of_c1 (.cst (.int 0))))
      .nil)
def sortsN (fl : Flow) (st : Str) : List Str := (fl.states.filter fun q => decide (q.1 = st)).map (·.2)
def sortN (fl : Flow) (st : Str) : Str := (sortsN fl st).headD ""
theorem sortsN_ne {fl : Flow} {st : Str} (h : st ∈ nmsOf fl) : ∃ r, sortsN fl st = sortN fl st :: r := by
  unfold sortN
  cases e : sortsN fl st with
  | cons a r => exact ⟨r, rfl⟩
  | nil =>
    obtain ⟨q, hq, rfl⟩ := List.mem_map.mp h
    have : q.2 ∈ sortsN fl q.1 := List.mem_map_of_mem (List.mem_filter.mpr ⟨hq, by simp⟩)
    rw [e] at this
    cases this
theorem sortN_of {fl : Flow} (ho : FlowOk fl) {q : Str × Str} (h : q ∈ fl.states) : sortN fl q.1 = q.2 := by
  have key : ∀ l : List (Str × Str), (l.map (·.1)).Nodup → q ∈ l → (l.filter fun r => decide (r.1 = q.1)) = [q] := by
    intro l
    induction l with
    | nil => intro _ h; cases h
    | cons a l ih =>
      intro nd h
      rw [List.map_cons, List.nodup_cons] at nd
      rcases List.mem_cons.mp h with e | e
      · subst e
        rw [List.filter_cons_of_pos (by simp), List.filter_eq_nil_iff.mpr]
        intro b hb hd
        exact nd.1 (of_decide_eq_true hd ▸ List.mem_map_of_mem hb)
      · rw [List.filter_cons_of_neg, ih nd.2 e]
        intro hd
        exact nd.1 (of_decide_eq_true hd ▸ List.mem_map_of_mem e)
  unfold sortN sortsN
  rw [key fl.states ho.nd h]
  rfl
def SortT (f : List D → R D) : Prop := ∀ fl st, st ∈ nmsOf fl → f [flD fl, .str st] = .ok (.str (sortN fl st))
theorem atI_zero {x : D} {l : List D} : L2.atI (x :: l) 0 = some x := by
  unfold L2.atI L2.ixN
  simp
theorem sort_run {g : G} : SortT (runD g 2 2 sort_of_b) := fun fl st hst => by
  obtain ⟨r, hr⟩ := sortsN_ne hst
  refine runD_rt rfl rfl (k := 0) ?_
  show exes g sort_of_b [some (.d (flD fl)), some (.d (.str st)), none, none] 0 = _
  have e : ev g sort_of_c1 [some (.d (flD fl)), some (.d (.str st)), none, none] 0 = .ok (.list (strsD (sortsN fl st)), 0) := by
    have h := ev_comp (g := g) (own := [2, 3]) (tg := .tp (.cons (.nm 2) (.cons (.nm 3) .nil))) (it := .tup (.ix (.var 0) (.cst (.int 0)))) (c := .cmp .Eq (.var 2) (.var 1)) (elt := .var 3) (ρ0 := [some (.d (flD fl)), some (.d (.str st)), none, none]) (k := 0)
      fl.states pairD (fun q => [some (.d (flD fl)), some (.d (.str st)), some (.d (.str q.1)), some (.d (.str q.2))]) (fun q => decide (q.1 = st)) (fun q => .str q.2) rfl (by simp only [exes_cons, exes_nil, exe, ev, evs, evi, go_ok, go_nx, bind_ok, pure_ok, of_some, at_ok, List.getElem?_cons_succ, List.getElem?_cons_zero, List.set_cons_succ, List.set_cons_zero, putS, setSV, kdOf, anyTr, lawIn, isTr, trI, List.length_cons, List.length_nil, wipeOk, List.all_cons, List.all_nil, wipeR, Option.bind_some, isOmit, endOf, intOf, getL, getT, getK, parOk, parS, ne_eq, not_false_eq_true, reduceCtorEq, decide_false, decide_true, Bool.or_false, Bool.false_or, Bool.or_true, Bool.true_or, Bool.and_true, Bool.true_and, Bool.not_true, Bool.not_false, Bool.false_eq_true, if_true, if_false, ite_true, ite_false, if_pos, Nat.reduceLT, Nat.reduceAdd, ↓reduceIte, tst, truD, Bool.and_self, Bool.and_false, Bool.false_and, Nat.lt_add_one, Nat.zero_lt_succ, Nat.lt_irrefl, List.append_nil, List.cons_append, List.nil_append, fl_at.1]) (fun _ _ => rfl) (fun q _ => tstB (by simp only [exes_cons, exes_nil, exe, ev, evs, evi, go_ok, go_nx, bind_ok, pure_ok, of_some, at_ok, List.getElem?_cons_succ, List.getElem?_cons_zero, List.set_cons_succ, List.set_cons_zero, putS, setSV, kdOf, anyTr, lawIn, isTr, trI, List.length_cons, List.length_nil, wipeOk, List.all_cons, List.all_nil, wipeR, Option.bind_some, isOmit, endOf, intOf, getL, getT, getK, parOk, parS, ne_eq, not_false_eq_true, reduceCtorEq, decide_false, decide_true, Bool.or_false, Bool.false_or, Bool.or_true, Bool.true_or, Bool.and_true, Bool.true_and, Bool.not_true, Bool.not_false, Bool.false_eq_true, if_true, if_false, ite_true, ite_false, if_pos, Nat.reduceLT, Nat.reduceAdd, ↓reduceIte, tst, truD, Bool.and_self, Bool.and_false, Bool.false_and, Nat.lt_add_one, Nat.zero_lt_succ, Nat.lt_irrefl, List.append_nil, List.cons_append, List.nil_append, eqD_str])) (fun q _ _ => ⟨by simp [kdOf], rfl⟩)
    unfold sort_of_c1
    rw [h]
    unfold sortsN strsD
    rw [List.map_map]
    rfl
  rw [hr, strsD_cons] at e
  simp only [exes_cons, exes_nil, exe, ev, evs, evi, go_ok, go_nx, bind_ok, pure_ok, of_some, at_ok, List.getElem?_cons_succ, List.getElem?_cons_zero, List.set_cons_succ, List.set_cons_zero, putS, setSV, kdOf, anyTr, lawIn, isTr, trI, List.length_cons, List.length_nil, wipeOk, List.all_cons, List.all_nil, wipeR, Option.bind_some, isOmit, endOf, intOf, getL, getT, getK, parOk, parS, ne_eq, not_false_eq_true, reduceCtorEq, decide_false, decide_true, Bool.or_false, Bool.false_or, Bool.or_true, Bool.true_or, Bool.and_true, Bool.true_and, Bool.not_true, Bool.not_false, Bool.false_eq_true, if_true, if_false, ite_true, ite_false, if_pos, Nat.reduceLT, Nat.reduceAdd, ↓reduceIte, tst, truD, Bool.and_self, Bool.and_false, Bool.false_and, Nat.lt_add_one, Nat.zero_lt_succ, Nat.lt_irrefl, List.append_nil, List.cons_append, List.nil_append, sort_of_b, e, ixD, atI_zero]
  rfl
/-! stuck -/
def stuck_c1 : E := (.comp [3, 4] (.tp (.cons (.nm 3) (.cons (.nm 4) .nil))) (.tup (.ix (.var 0) (.cst (.int 0)))) (.cmp .Eq (.var 4) (.cst (.str "done"))) (.var 3))
def stuck_c2 : E := (.comp [6] (.nm 6) (.tup (.call 0 (.cons (.var 0) (.cons (.var 3) .nil)) (.cons (.var 1) .nil))) (.cst (.bool true)) (.cmp .In (.var 6) (.var 2)))
def stuck_l1 : Ss := (.cons (.iff (.nt (.bi .any stuck_c2)) (.cons (.app 5 (.var 3))
      .nil) .nil)
      .nil)
def stuck_b : Ss :=
      (.cons (.set 2 false stuck_c1)
      (.cons (.set 5 true (.lst .nil))
      (.cons (.forr (.tp (.cons (.nm 3) (.cons (.nm 4) .nil))) (.tup (.ix (.var 0) (.cst (.int 0)))) stuck_l1)
      (.cons (.ret (.bi .tuple (.var 5)))
      .nil))))
theorem k_stuck_c1 {ρ : Rho} : kdOf ρ stuck_c1 = .fr := rfl
def endsN (fl : Flow) : List Str := (fl.states.filter fun q => decide (q.2 = ("done" : Str))).map (·.1)
def stuckAt (fl : Flow) (rl : Option (List Str)) (st : Str) : Bool := !((reachN fl st rl).any fun x => decide (x ∈ endsN fl))
def stuckN (fl : Flow) (rl : Option (List Str)) : List Str := (nmsOf fl).filter (stuckAt fl rl)
def StuckT (f : List D → R D) : Prop := ∀ fl rl, FlowOk fl → f [flD fl, rolD rl] = .ok (.tuple (strsD (stuckN fl rl)))
theorem any_bools {α : Type} {f : α → Bool} {l : List α} : biD .any (.list (l.map fun x => .bool (f x))) = some (.bool (l.any f)) := by
  show (boolsOf _).map _ = _
  rw [boolsOf_map]
  show some (PyData.bool ((l.map f).any id)) = _
  rw [List.any_map]
  rfl
theorem in_lst {a : Str} {l : List Str} : cmpD .In (.str a) (.list (strsD l)) = some (decide (a ∈ l)) := in_strs.1
theorem stuck_loop {g : G} (hr : ReachT (g.fn 0)) {fl : Flow} (ho : FlowOk fl) {rl : Option (List Str)} {k : Nat} : ∀ (l : List (Str × Str)) (acc : List Str) (x3 x4 : Option SV), (∀ q ∈ l, q.1 ∈ nmsOf fl) → acc.length + l.length ≤ 1000 →
    ∃ x3' x4', forL (bindT (.tp (.cons (.nm 3) (.cons (.nm 4) .nil)))) (exes g stuck_l1) (l.map pairD) [some (.d (flD fl)), some (.d (rolD rl)), some (.d (.list (strsD (endsN fl)))), x3, x4, some (.own (strsD acc)), none] k
      = .nx [some (.d (flD fl)), some (.d (rolD rl)), some (.d (.list (strsD (endsN fl)))), x3', x4', some (.own (strsD (acc ++ (l.map (·.1)).filter (stuckAt fl rl)))), none] k
  | [], acc, x3, x4, _, _ => ⟨x3, x4, by simp [forL]⟩
  | q :: l, acc, x3, x4, h, hl => by
    rw [List.length_cons] at hl
    have hq := h q (List.mem_cons_self ..)
    have e0 := hr fl q.1 rl ho hq
    have e : ev g stuck_c2 [some (.d (flD fl)), some (.d (rolD rl)), some (.d (.list (strsD (endsN fl)))), some (.d (.str q.1)), some (.d (.str q.2)), some (.own (strsD acc)), none] k = .ok (.list ((reachN fl q.1 rl).map fun x => .bool (decide (x ∈ endsN fl))), k) :=
      ev_compA (g := g) (own := [6]) (tg := .nm 6) (it := .tup (.call 0 (.cons (.var 0) (.cons (.var 3) .nil)) (.cons (.var 1) .nil))) (elt := .cmp .In (.var 6) (.var 2)) (k := k) (reachN fl q.1 rl) .str
        (fun x => [some (.d (flD fl)), some (.d (rolD rl)), some (.d (.list (strsD (endsN fl)))), some (.d (.str q.1)), some (.d (.str q.2)), some (.own (strsD acc)), some (.d (.str x))]) (fun x => .bool (decide (x ∈ endsN fl))) rfl (by simp only [exes_cons, exes_nil, exe, ev, evs, evi, go_ok, go_nx, bind_ok, pure_ok, of_some, at_ok, List.getElem?_cons_succ, List.getElem?_cons_zero, List.set_cons_succ, List.set_cons_zero, putS, setSV, kdOf, anyTr, lawIn, isTr, trI, List.length_cons, List.length_nil, wipeOk, List.all_cons, List.all_nil, wipeR, Option.bind_some, isOmit, endOf, intOf, getL, getT, getK, parOk, parS, ne_eq, not_false_eq_true, reduceCtorEq, decide_false, decide_true, Bool.or_false, Bool.false_or, Bool.or_true, Bool.true_or, Bool.and_true, Bool.true_and, Bool.not_true, Bool.not_false, Bool.false_eq_true, if_true, if_false, ite_true, ite_false, if_pos, Nat.reduceLT, Nat.reduceAdd, ↓reduceIte, tst, truD, Bool.and_self, Bool.and_false, Bool.false_and, Nat.lt_add_one, Nat.zero_lt_succ, Nat.lt_irrefl, List.append_nil, List.cons_append, List.nil_append, e0, strsD]) (fun _ _ => rfl) (fun x _ => ⟨by simp [kdOf], by simp only [exes_cons, exes_nil, exe, ev, evs, evi, go_ok, go_nx, bind_ok, pure_ok, of_some, at_ok, List.getElem?_cons_succ, List.getElem?_cons_zero, List.set_cons_succ, List.set_cons_zero, putS, setSV, kdOf, anyTr, lawIn, isTr, trI, List.length_cons, List.length_nil, wipeOk, List.all_cons, List.all_nil, wipeR, Option.bind_some, isOmit, endOf, intOf, getL, getT, getK, parOk, parS, ne_eq, not_false_eq_true, reduceCtorEq, decide_false, decide_true, Bool.or_false, Bool.false_or, Bool.or_true, Bool.true_or, Bool.and_true, Bool.true_and, Bool.not_true, Bool.not_false, Bool.false_eq_true, if_true, if_false, ite_true, ite_false, if_pos, Nat.reduceLT, Nat.reduceAdd, ↓reduceIte, tst, truD, Bool.and_self, Bool.and_false, Bool.false_and, Nat.lt_add_one, Nat.zero_lt_succ, Nat.lt_irrefl, List.append_nil, List.cons_append, List.nil_append, in_lst]⟩)
    rw [List.map_cons, List.map_cons]
    have hz : lim ((strsD acc).length + 1) = true := by
      unfold lim strsD
      rw [List.length_map]
      exact decide_eq_true (by omega)
    cases hs : stuckAt fl rl q.1 with
    | true =>
      obtain ⟨x3', x4', ih⟩ := stuck_loop hr ho (rl := rl) (k := k) l (acc ++ [q.1]) (some (.d (.str q.1))) (some (.d (.str q.2))) (fun r hr => h r (List.mem_cons_of_mem _ hr)) (by simp; omega)
      refine ⟨x3', x4', ?_⟩
      rw [List.filter_cons_of_pos hs]
      rw [show acc ++ q.1 :: (l.map (·.1)).filter (stuckAt fl rl) = acc ++ [q.1] ++ (l.map (·.1)).filter (stuckAt fl rl) from by simp]
      refine forL_nx (ρ1 := [some (.d (flD fl)), some (.d (rolD rl)), some (.d (.list (strsD (endsN fl)))), some (.d (.str q.1)), some (.d (.str q.2)), some (.own (strsD acc)), none]) rfl ?_ ih
      have hs' : (!((reachN fl q.1 rl).any fun x => decide (x ∈ endsN fl))) = true := hs
      have hap : strsD acc ++ [.str q.1] = strsD (acc ++ [q.1]) := by unfold strsD; rw [List.map_append]; rfl
      simp only [exes_cons, exes_nil, exe, ev, evs, evi, go_ok, go_nx, bind_ok, pure_ok, of_some, at_ok, List.getElem?_cons_succ, List.getElem?_cons_zero, List.set_cons_succ, List.set_cons_zero, putS, setSV, kdOf, anyTr, lawIn, isTr, trI, List.length_cons, List.length_nil, wipeOk, List.all_cons, List.all_nil, wipeR, Option.bind_some, isOmit, endOf, intOf, getL, getT, getK, parOk, parS, ne_eq, not_false_eq_true, reduceCtorEq, decide_false, decide_true, Bool.or_false, Bool.false_or, Bool.or_true, Bool.true_or, Bool.and_true, Bool.true_and, Bool.not_true, Bool.not_false, Bool.false_eq_true, if_true, if_false, ite_true, ite_false, if_pos, Nat.reduceLT, Nat.reduceAdd, ↓reduceIte, tst, truD, Bool.and_self, Bool.and_false, Bool.false_and, Nat.lt_add_one, Nat.zero_lt_succ, Nat.lt_irrefl, List.append_nil, List.cons_append, List.nil_append, stuck_l1, e, any_bools, hs', hz, hap]
    | false =>
      obtain ⟨x3', x4', ih⟩ := stuck_loop hr ho (rl := rl) (k := k) l acc (some (.d (.str q.1))) (some (.d (.str q.2))) (fun r hr => h r (List.mem_cons_of_mem _ hr)) (by omega)
      refine ⟨x3', x4', ?_⟩
      rw [List.filter_cons_of_neg (by rw [hs]; simp)]
      refine forL_nx (ρ1 := [some (.d (flD fl)), some (.d (rolD rl)), some (.d (.list (strsD (endsN fl)))), some (.d (.str q.1)), some (.d (.str q.2)), some (.own (strsD acc)), none]) rfl ?_ ih
      have hs' : (!((reachN fl q.1 rl).any fun x => decide (x ∈ endsN fl))) = false := hs
      simp only [exes_cons, exes_nil, exe, ev, evs, evi, go_ok, go_nx, bind_ok, pure_ok, of_some, at_ok, List.getElem?_cons_succ, List.getElem?_cons_zero, List.set_cons_succ, List.set_cons_zero, putS, setSV, kdOf, anyTr, lawIn, isTr, trI, List.length_cons, List.length_nil, wipeOk, List.all_cons, List.all_nil, wipeR, Option.bind_some, isOmit, endOf, intOf, getL, getT, getK, parOk, parS, ne_eq, not_false_eq_true, reduceCtorEq, decide_false, decide_true, Bool.or_false, Bool.false_or, Bool.or_true, Bool.true_or, Bool.and_true, Bool.true_and, Bool.not_true, Bool.not_false, Bool.false_eq_true, if_true, if_false, ite_true, ite_false, if_pos, Nat.reduceLT, Nat.reduceAdd, ↓reduceIte, tst, truD, Bool.and_self, Bool.and_false, Bool.false_and, Nat.lt_add_one, Nat.zero_lt_succ, Nat.lt_irrefl, List.append_nil, List.cons_append, List.nil_append, stuck_l1, e, any_bools, hs']
theorem stuck_run {g : G} (hr : ReachT (g.fn 0)) : StuckT (runD g 2 5 stuck_b) := fun fl rl ho => by
  refine runD_rt rfl rfl (k := 0) ?_
  show exes g stuck_b [some (.d (flD fl)), some (.d (rolD rl)), none, none, none, none, none] 0 = _
  have e : ev g stuck_c1 [some (.d (flD fl)), some (.d (rolD rl)), none, none, none, none, none] 0 = .ok (.list (strsD (endsN fl)), 0) := by
    have h := ev_comp (g := g) (own := [3, 4]) (tg := .tp (.cons (.nm 3) (.cons (.nm 4) .nil))) (it := .tup (.ix (.var 0) (.cst (.int 0)))) (c := .cmp .Eq (.var 4) (.cst (.str "done"))) (elt := .var 3) (ρ0 := [some (.d (flD fl)), some (.d (rolD rl)), none, none, none, none, none]) (k := 0)
      fl.states pairD (fun q => [some (.d (flD fl)), some (.d (rolD rl)), none, some (.d (.str q.1)), some (.d (.str q.2)), none, none]) (fun q => decide (q.2 = ("done" : Str))) (fun q => .str q.1) rfl (by simp only [exes_cons, exes_nil, exe, ev, evs, evi, go_ok, go_nx, bind_ok, pure_ok, of_some, at_ok, List.getElem?_cons_succ, List.getElem?_cons_zero, List.set_cons_succ, List.set_cons_zero, putS, setSV, kdOf, anyTr, lawIn, isTr, trI, List.length_cons, List.length_nil, wipeOk, List.all_cons, List.all_nil, wipeR, Option.bind_some, isOmit, endOf, intOf, getL, getT, getK, parOk, parS, ne_eq, not_false_eq_true, reduceCtorEq, decide_false, decide_true, Bool.or_false, Bool.false_or, Bool.or_true, Bool.true_or, Bool.and_true, Bool.true_and, Bool.not_true, Bool.not_false, Bool.false_eq_true, if_true, if_false, ite_true, ite_false, if_pos, Nat.reduceLT, Nat.reduceAdd, ↓reduceIte, tst, truD, Bool.and_self, Bool.and_false, Bool.false_and, Nat.lt_add_one, Nat.zero_lt_succ, Nat.lt_irrefl, List.append_nil, List.cons_append, List.nil_append, fl_at.1]) (fun _ _ => rfl) (fun q _ => tstB (by simp only [exes_cons, exes_nil, exe, ev, evs, evi, go_ok, go_nx, bind_ok, pure_ok, of_some, at_ok, List.getElem?_cons_succ, List.getElem?_cons_zero, List.set_cons_succ, List.set_cons_zero, putS, setSV, kdOf, anyTr, lawIn, isTr, trI, List.length_cons, List.length_nil, wipeOk, List.all_cons, List.all_nil, wipeR, Option.bind_some, isOmit, endOf, intOf, getL, getT, getK, parOk, parS, ne_eq, not_false_eq_true, reduceCtorEq, decide_false, decide_true, Bool.or_false, Bool.false_or, Bool.or_true, Bool.true_or, Bool.and_true, Bool.true_and, Bool.not_true, Bool.not_false, Bool.false_eq_true, if_true, if_false, ite_true, ite_false, if_pos, Nat.reduceLT, Nat.reduceAdd, ↓reduceIte, tst, truD, Bool.and_self, Bool.and_false, Bool.false_and, Nat.lt_add_one, Nat.zero_lt_succ, Nat.lt_irrefl, List.append_nil, List.cons_append, List.nil_append, eqD_str])) (fun q _ _ => ⟨by simp [kdOf], rfl⟩)
    unfold stuck_c1
    rw [h]
    unfold endsN strsD
    rw [List.map_map]
    rfl
  obtain ⟨x3', x4', e2⟩ := stuck_loop hr ho (rl := rl) (k := 0) fl.states [] none none (fun q hq => List.mem_map_of_mem hq) (by have := ho.few; simp; omega)
  rw [List.nil_append] at e2
  have e2' : forL (bindT (.tp (.cons (.nm 3) (.cons (.nm 4) .nil)))) (exes g stuck_l1) (fl.states.map pairD) [some (.d (flD fl)), some (.d (rolD rl)), some (.d (.list (strsD (endsN fl)))), none, none, some (.own []), none] 0 = _ := e2
  have b2 : ∀ l, biD .tuple (.list l) = some (.tuple l) := fun l => rfl
  simp only [exes_cons, exes_nil, exe, ev, evs, evi, go_ok, go_nx, bind_ok, pure_ok, of_some, at_ok, List.getElem?_cons_succ, List.getElem?_cons_zero, List.set_cons_succ, List.set_cons_zero, putS, setSV, kdOf, anyTr, lawIn, isTr, trI, List.length_cons, List.length_nil, wipeOk, List.all_cons, List.all_nil, wipeR, Option.bind_some, isOmit, endOf, intOf, getL, getT, getK, parOk, parS, ne_eq, not_false_eq_true, reduceCtorEq, decide_false, decide_true, Bool.or_false, Bool.false_or, Bool.or_true, Bool.true_or, Bool.and_true, Bool.true_and, Bool.not_true, Bool.not_false, Bool.false_eq_true, if_true, if_false, ite_true, ite_false, if_pos, Nat.reduceLT, Nat.reduceAdd, ↓reduceIte, tst, truD, Bool.and_self, Bool.and_false, Bool.false_and, Nat.lt_add_one, Nat.zero_lt_succ, Nat.lt_irrefl, List.append_nil, List.cons_append, List.nil_append, stuck_b, k_stuck_c1, e, fl_at.1, e2', b2]
  rfl
end Y

namespace Y
open PySem PySem.W PySem.Spec PyProof.Rows L2
/-! ### two clauses, in general -/
theorem comp2_run {α : Type} {enc : α → D} {bnd : D → Option Rho} {t : Rho → Nat → R (Bool × Nat)} {inner : Rho → Nat → R (List D × Nat)} {ρ : α → Rho} {f : α → List D} {k : Nat} : ∀ (l : List α), (∀ a ∈ l, bnd (enc a) = some (ρ a)) → (∀ a ∈ l, t (ρ a) k = .ok (true, k)) → (∀ a ∈ l, inner (ρ a) k = .ok (f a, k)) → comp2L bnd t inner (l.map enc) k = .ok (l.flatMap f, k)
  | [], _, _, _ => rfl
  | a :: l, h1, h2, h3 => by
    have ih := comp2_run (enc := enc) (bnd := bnd) (t := t) (inner := inner) (k := k) l (fun b hb => h1 b (List.mem_cons_of_mem _ hb)) (fun b hb => h2 b (List.mem_cons_of_mem _ hb)) fun b hb => h3 b (List.mem_cons_of_mem _ hb)
    rw [List.map_cons, List.flatMap_cons]
    exact comp2L_t (h1 a (List.mem_cons_self ..)) (h2 a (List.mem_cons_self ..)) (h3 a (List.mem_cons_self ..)) ih
theorem noxO {α : Type} {a : α} : R.nox (.ok a) = .ok a := rfl
theorem ev_comp2 {α β : Type} {g : G} {own own1 : List Nat} {tg tg1 : Tg} {it it1 : It} {c1 elt : E} {ρ0 : Rho} {k : Nat} (l : List α) (enc : α → D) (ρ : α → Rho) (l1 : α → List β) (enc1 : β → D) (ρ1 : α → β → Rho) (p : α → β → Bool) (f : α → β → D) (hw : wipeOk ρ0 own = true) (hi : evi g it ρ0 k = .ok (l.map enc, k))
    (hb : ∀ a ∈ l, bindT tg (enc a) (wipeR ρ0 own) = some (ρ a)) (hw1 : ∀ a ∈ l, wipeOk (ρ a) own1 = true ∧ trI (ρ a) it1 = false ∧ evi g it1 (ρ a) k = .ok ((l1 a).map enc1, k))
    (hb1 : ∀ a ∈ l, ∀ b ∈ l1 a, bindT tg1 (enc1 b) (wipeR (ρ a) own1) = some (ρ1 a b)) (ht : ∀ a ∈ l, ∀ b ∈ l1 a, tstR (ev g c1 (ρ1 a b) k) = .ok (p a b, k)) (he : ∀ a ∈ l, ∀ b ∈ l1 a, p a b = true → kdOf (ρ1 a b) elt ≠ .tr ∧ ev g elt (ρ1 a b) k = .ok (f a b, k))
    (hl : lim (l.flatMap fun a => ((l1 a).filter (p a)).map (f a)).length = true) :
    ev g (.comp2 own tg it (.cst (.bool true)) own1 tg1 it1 c1 elt) ρ0 k = .ok (.list (l.flatMap fun a => ((l1 a).filter (p a)).map (f a)), k) := by
  unfold ev
  rw [hw, hi, bind_ok]
  dsimp only
  rw [comp2_run (ρ := ρ) (f := fun a => ((l1 a).filter (p a)).map (f a)) l hb (fun _ _ => rfl) fun a ha => ?_]
  · rw [noxO, bind_ok]
    dsimp only
    rw [if_pos hl]
    rfl
  · obtain ⟨w1, w2, w3⟩ := hw1 a ha
    rw [w1, w2, w3]
    show compL _ _ _ _ _ = _
    refine comp_run (ρ := ρ1 a) (l1 a) (hb1 a ha) (ht a ha) fun b hb hp => ?_
    obtain ⟨z1, z2⟩ := he a ha b hb hp
    rw [if_neg z1, z2]
    rfl
/-! ### texts in their order -/
def ltS (a b : Str) : Bool := decide (a.cps.toList < b.cps.toList)
theorem Str.ext' {a b : Str} (h : a.cps.toList = b.cps.toList) : a = b := by
  cases a; cases b
  simp only at h
  congr
  exact Array.toList_inj.mp h
theorem ltS_trans {a b c : Str} (h1 : ltS a b = true) (h2 : ltS b c = true) : ltS a c = true := by
  unfold ltS at *
  exact decide_eq_true (List.lt_trans (of_decide_eq_true h1) (of_decide_eq_true h2))
theorem ltS_irrefl {a : Str} : ltS a a = false := by
  unfold ltS
  exact decide_eq_false (List.lt_irrefl _)
theorem ltS_total {a b : Str} (h1 : ltS a b = false) (h2 : ltS b a = false) : a = b := by
  unfold ltS at *
  have h1 := of_decide_eq_false h1
  have h2 := of_decide_eq_false h2
  exact Str.ext' (List.le_antisymm h2 h1)
theorem ins_mem {x y : Str} : ∀ {l : List Str}, y ∈ insStr x l ↔ y = x ∨ y ∈ l
  | [] => by simp [insStr]
  | z :: l => by
    unfold insStr
    split
    · rw [List.mem_cons, ins_mem, List.mem_cons]
      constructor
      · rintro (h | h | h)
        · exact .inr (.inl h)
        · exact .inl h
        · exact .inr (.inr h)
      · rintro (h | h | h)
        · exact .inr (.inl h)
        · exact .inl h
        · exact .inr (.inr h)
    · rw [List.mem_cons]
theorem sort_mem {y : Str} : ∀ {l : List Str}, y ∈ sortStr l ↔ y ∈ l
  | [] => Iff.rfl
  | x :: l => by
    show y ∈ insStr x (sortStr l) ↔ _
    rw [ins_mem, sort_mem, List.mem_cons]
theorem ins_rise {x : Str} : ∀ {l : List Str}, l.Pairwise (fun a b => ltS a b = true) → x ∉ l → (insStr x l).Pairwise fun a b => ltS a b = true
  | [], _, _ => by simp [insStr]
  | z :: l, h, hx => by
    rw [List.pairwise_cons] at h
    have hu : insStr x (z :: l) = if ltS z x = true then z :: insStr x l else x :: z :: l := rfl
    rw [hu]
    by_cases hz : ltS z x = true
    · rw [if_pos hz, List.pairwise_cons]
      refine ⟨fun y hy => ?_, ins_rise h.2 fun q => hx (List.mem_cons_of_mem _ q)⟩
      rcases ins_mem.mp hy with e | e
      · rw [e]; exact hz
      · exact h.1 y e
    · rw [if_neg hz, List.pairwise_cons]
      have hxz : ltS x z = true := by
        cases q : ltS x z with
        | true => rfl
        | false => exact absurd (by rw [ltS_total q (by simpa using hz)]; exact List.mem_cons_self ..) hx
      refine ⟨fun y hy => ?_, List.pairwise_cons.mpr h⟩
      rcases List.mem_cons.mp hy with e | e
      · rw [e]; exact hxz
      · exact ltS_trans hxz (h.1 y e)
theorem sort_rise : ∀ {l : List Str}, l.Nodup → (sortStr l).Pairwise fun a b => ltS a b = true
  | [], _ => .nil
  | x :: l, h => by
    rw [List.nodup_cons] at h
    exact ins_rise (sort_rise h.2) fun q => h.1 (sort_mem.mp q)
theorem ded_spec (xs : List Str) : (dedS xs).Nodup ∧ ∀ x, x ∈ dedS xs ↔ x ∈ xs := by
  unfold dedS
  have : ∀ (xs l : List Str), l.Nodup → (xs.foldl (fun l x => if (l.any fun y => decide (y = x)) then l else l ++ [x]) l).Nodup ∧ ∀ x, x ∈ xs.foldl (fun l x => if (l.any fun y => decide (y = x)) then l else l ++ [x]) l ↔ x ∈ l ∨ x ∈ xs := by
    intro xs
    induction xs with
    | nil => intro l h; exact ⟨h, fun x => by simp⟩
    | cons y xs ih =>
      intro l h
      rw [List.foldl_cons]
      have hany : (l.any fun z => decide (z = y)) = true ↔ y ∈ l := by simp
      by_cases hy : y ∈ l
      · rw [if_pos (hany.mpr hy)]
        refine ⟨(ih l h).1, fun x => ?_⟩
        rw [(ih l h).2, List.mem_cons]
        constructor
        · rintro (q | q)
          · exact .inl q
          · exact .inr (.inr q)
        · rintro (q | q | q)
          · exact .inl q
          · exact .inl (q ▸ hy)
          · exact .inr q
      · rw [if_neg (fun q => hy (hany.mp q))]
        have h2 : (l ++ [y]).Nodup := by
          rw [List.nodup_append]
          refine ⟨h, by simp, ?_⟩
          intro a ha b hb e
          rw [List.mem_singleton.mp hb] at e
          exact hy (e ▸ ha)
        refine ⟨(ih _ h2).1, fun x => ?_⟩
        rw [(ih _ h2).2, List.mem_append, List.mem_singleton, List.mem_cons]
        constructor
        · rintro ((q | q) | q)
          · exact .inl q
          · exact .inr (.inl q)
          · exact .inr (.inr q)
        · rintro (q | q | q)
          · exact .inl (.inl q)
          · exact .inl (.inr q)
          · exact .inr q
  have h := this xs [] List.nodup_nil
  exact ⟨h.1, fun x => by rw [h.2]; simp⟩
/-! ### all roles -/
def rolesN (fl : Flow) : List Str := sortStr (dedS (rolesIn fl.moves))
theorem rolesIn_mem {r : Str} : ∀ {l : List Mv}, r ∈ rolesIn l ↔ ∃ m ∈ l, r ∈ m.roles
  | [] => by simp [rolesIn]
  | m :: l => by
    show r ∈ m.roles ++ rolesIn l ↔ _
    rw [List.mem_append, rolesIn_mem]
    simp
theorem rolesN_mem {fl : Flow} {r : Str} : r ∈ rolesN fl ↔ ∃ m ∈ fl.moves, r ∈ m.roles := by
  unfold rolesN
  rw [sort_mem, (ded_spec _).2, rolesIn_mem]
theorem rolesN_rise {fl : Flow} : (rolesN fl).Pairwise fun a b => ltS a b = true := sort_rise (ded_spec _).1
theorem rise_nodup {l : List Str} (h : l.Pairwise fun a b => ltS a b = true) : l.Nodup := h.imp fun {a b} h e => by
  rw [e, ltS_irrefl] at h
  cases h
theorem rolesN_few {fl : Flow} (ho : FlowOk fl) : (rolesN fl).length ≤ 3 := by
  have := (rise_nodup (rolesN_rise (fl := fl))).length_le_of_subset (l₂ := roles3) fun r hr => by
    obtain ⟨m, hm, h⟩ := rolesN_mem.mp hr
    exact (ho.mv m hm).2.2.2.2.1 r h
  exact this
def AllT (f : List D → R D) : Prop := ∀ fl, FlowOk fl → f [flD fl] = .ok (.list (strsD (rolesN fl)))
theorem all_run {g : G} : AllT (runD g 1 2 bAll) := fun fl ho => by
  have hl := Nat.le_trans (dedS_len (xs := rolesIn fl.moves)) (rolesIn_len ho)
  refine runD_rt rfl rfl (k := 0) ?_
  show exes g bAll [some (.d (flD fl)), none, none] 0 = _
  have e4 : evi g (.tup (.ix (.var 0) (.cst (.int 1)))) [some (.d (flD fl)), none, none] 0 = .ok (fl.moves.map mvD, 0) := by
    simp only [exes_cons, exes_nil, exe, ev, evs, evi, go_ok, go_nx, bind_ok, pure_ok, of_some, at_ok, List.getElem?_cons_succ, List.getElem?_cons_zero, List.set_cons_succ, List.set_cons_zero, putS, setSV, kdOf, anyTr, lawIn, isTr, trI, List.length_cons, List.length_nil, wipeOk, List.all_cons, List.all_nil, wipeR, Option.bind_some, isOmit, endOf, intOf, getL, getT, getK, parOk, parS, ne_eq, not_false_eq_true, reduceCtorEq, decide_false, decide_true, Bool.or_false, Bool.false_or, Bool.or_true, Bool.true_or, Bool.and_true, Bool.true_and, Bool.not_true, Bool.not_false, Bool.false_eq_true, if_true, if_false, ite_true, ite_false, if_pos, Nat.reduceLT, Nat.reduceAdd, ↓reduceIte, tst, truD, Bool.and_self, Bool.and_false, Bool.false_and, Nat.lt_add_one, Nat.zero_lt_succ, Nat.lt_irrefl, List.append_nil, List.cons_append, List.nil_append, fl_at.2]
  have e5 : ev g (.sset2 [1, 2] (.nm 1) (.tup (.ix (.var 0) (.cst (.int 1)))) (.cst (.bool true)) [2] (.nm 2) (.tup (.ix (.var 1) (.cst (.int 3)))) (.cst (.bool true)) (.var 2)) [some (.d (flD fl)), none, none] 0 = .ok (.list (strsD (sortStr (dedS (rolesIn fl.moves)))), 0) := by
    unfold ev
    rw [show wipeOk [some (.d (flD fl)), none, none] [1, 2] = true from rfl, e4, bind_ok]
    dsimp only
    rw [show wipeR [some (.d (flD fl)), none, none] [1, 2] = [some (.d (flD fl)), none, none] from rfl, all_comp]
    show (R.of (strsOf (strsD (rolesIn fl.moves))) >>= _) = _
    rw [strsOf_strsD, of_some, bind_ok]
    rw [if_pos (decide_eq_true (by omega))]
    rfl
  unfold bAll
  rw [exes_cons]
  unfold exe
  rw [e5]
  rfl
/-! ### the least roles -/
def growN (names : List Str) (r : List Str) : List (List Str) := (names.filter fun n => r.isEmpty || ltS (r.getLastD "") n).map fun n => r ++ [n]
def rowsN (names : List Str) (rows : List (List Str)) : List (List Str) := rows.flatMap (growN names)
def leastLp (fl : Flow) (st z : Str) (names : List Str) : Nat → List (List Str) → Option (List Str)
  | 0, _ => none
  | n + 1, rows => match rows.find? fun r => (wayN fl st z (some r)).isSome with
    | some r => some r
    | none => leastLp fl st z names n (rowsN names rows)
def leastN (fl : Flow) (st z : Str) : Option (List Str) := leastLp fl st z (rolesN fl) ((rolesN fl).length + 1) [[]]
def LeastT (f : List D → R D) : Prop := ∀ fl st z, FlowOk fl → st ∈ nmsOf fl → f [flD fl, .str st, .str z] = .ok (pO (leastN fl st z))
def tupS (l : List Str) : D := .tuple (strsD l)
def least_c1 : E := (.comp2 [6, 7] (.nm 6) (.lst (.var 4)) (.cst (.bool true)) [7] (.nm 7) (.lst (.var 3)) (.bop true (.cmp .Eq (.var 6) (.tup .nil)) (.cmp .Gt (.var 7) (.ix (.var 6) (.neg (.cst (.int 1)))))) (.bin .add (.var 6) (.tup (.cons (.var 7) .nil))))
def least_l2 : Ss := (.cons (.forr (.nm 6) (.lst (.var 4)) bLeast1)
      (.cons (.set 4 false least_c1)
      .nil))
theorem rowsN_len {names : List Str} : ∀ {rows : List (List Str)}, (rowsN names rows).length ≤ rows.length * names.length
  | [] => by simp [rowsN]
  | r :: rows => by
    unfold rowsN
    rw [List.flatMap_cons, List.length_append, List.length_cons, Nat.add_mul, Nat.one_mul, Nat.add_comm]
    refine Nat.add_le_add rowsN_len ?_
    unfold growN
    rw [List.length_map]
    exact List.length_filter_le ..
theorem eqD_tupS {r : List Str} : cmpD .Eq (tupS r) (.tuple []) = some r.isEmpty := by
  have h := dOk_list (l := strsD r) (n := 0) (fun y hy => by
    obtain ⟨z, _, e⟩ := List.mem_map.mp hy
    rw [← e]; rfl) (fun y hy => by
    obtain ⟨z, _, e⟩ := List.mem_map.mp hy
    rw [← e, PyData.depth]; exact Nat.le_refl _) (by decide)
  show eqD _ _ = _
  unfold eqD tupS
  rw [h.2, show dOk (.tuple []) = true from rfl]
  cases r with
  | nil => rfl
  | cons a r =>
    show some (PyData.eqv (.tuple (.str a :: strsD r)) (.tuple [])) = _
    rw [PyData.eqv, PyData.eqvAll]
    rfl
theorem atI_last {x : D} {l : List D} : L2.atI (l ++ [x]) (-1) = some x := by
  unfold L2.atI L2.ixN
  rw [if_neg (by decide), List.length_append, List.length_singleton, if_pos (by omega)]
  show (l ++ [x])[(-1 + ((l.length + 1 : Nat) : Int)).toNat]? = _
  rw [show (-1 + ((l.length + 1 : Nat) : Int)).toNat = l.length from by omega]
  simp
theorem gtD_str {a b : Str} : cmpD .Gt (.str a) (.str b) = some (ltS b a) := rfl
theorem least_rows {g : G} {names : List Str} {rows : List (List Str)} (hl : rows.length * names.length ≤ 16777216) (hr : ∀ r ∈ rows, r.length ≤ 1000) {x0 x1 x2 x5 x6 : Option SV} {k : Nat} (h6 : ∀ l, x6 ≠ some (.own l)) (h6' : ∀ t l, x6 ≠ some (.ownd t l)) :
    ev g least_c1 [x0, x1, x2, some (.d (.list (strsD names))), some (.d (.list (rows.map tupS))), x5, x6, none] k = .ok (.list ((rowsN names rows).map tupS), k) := by
  have hw : wipeOk [x0, x1, x2, some (.d (.list (strsD names))), some (.d (.list (rows.map tupS))), x5, x6, none] [6, 7] = true := by
    unfold wipeOk
    simp only [List.all_cons, List.all_nil, List.getElem?_cons_succ, List.getElem?_cons_zero, Bool.and_true]
    cases x6 with
    | none => rfl
    | some sv =>
      cases sv with
      | own l => exact absurd rfl (h6 l)
      | ownd t l => exact absurd rfl (h6' t l)
      | _ => rfl
  have e : (rowsN names rows).map tupS = rows.flatMap fun r => (names.filter fun n => r.isEmpty || ltS (r.getLastD "") n).map fun n => tupS (r ++ [n]) := by
    unfold rowsN
    rw [List.map_flatMap]
    congr 1
    funext r
    unfold growN
    rw [List.map_map]
    rfl
  rw [e]
  refine ev_comp2 (g := g) (k := k) rows tupS (fun r => [x0, x1, x2, some (.d (.list (strsD names))), some (.d (.list (rows.map tupS))), x5, some (.d (tupS r)), none]) (fun _ => names) .str (fun r n => [x0, x1, x2, some (.d (.list (strsD names))), some (.d (.list (rows.map tupS))), x5, some (.d (tupS r)), some (.d (.str n))]) (fun r n => r.isEmpty || ltS (r.getLastD "") n) (fun r n => tupS (r ++ [n])) hw rfl (fun _ _ => rfl) (fun _ _ => ⟨rfl, rfl, rfl⟩) (fun _ _ _ _ => rfl) (fun r _ n _ => ?_) (fun r hrr n _ _ => ⟨by simp [kdOf], ?_⟩) ?_
  · cases hz : r.isEmpty with
    | true =>
      refine tstB ?_
      simp only [exes_cons, exes_nil, exe, ev, evs, evi, go_ok, go_nx, bind_ok, pure_ok, of_some, at_ok, List.getElem?_cons_succ, List.getElem?_cons_zero, List.set_cons_succ, List.set_cons_zero, putS, setSV, kdOf, anyTr, lawIn, isTr, trI, List.length_cons, List.length_nil, wipeOk, List.all_cons, List.all_nil, wipeR, Option.bind_some, isOmit, endOf, intOf, getL, getT, getK, parOk, parS, ne_eq, not_false_eq_true, reduceCtorEq, decide_false, decide_true, Bool.or_false, Bool.false_or, Bool.or_true, Bool.true_or, Bool.and_true, Bool.true_and, Bool.not_true, Bool.not_false, Bool.false_eq_true, if_true, if_false, ite_true, ite_false, if_pos, Nat.reduceLT, Nat.reduceAdd, ↓reduceIte, tst, truD, Bool.and_self, Bool.and_false, Bool.false_and, Nat.lt_add_one, Nat.zero_lt_succ, Nat.lt_irrefl, List.append_nil, List.cons_append, List.nil_append, eqD_tupS, hz]
    | false =>
      have hne : r ≠ [] := by intro z; rw [z] at hz; cases hz
      refine tstB ?_
      have hi : ixD (tupS r) (.int (-1)) = some (.str (r.getLastD "")) := by
        show L2.atI (strsD r) (-1) = _
        have : r = r.dropLast ++ [r.getLastD ""] := by
          rw [List.getLastD_eq_getLast?, List.getLast?_eq_some_getLast hne]
          exact (List.dropLast_concat_getLast hne).symm
        conv => lhs; rw [this]
        unfold strsD
        rw [List.map_append]
        exact atI_last
      simp only [exes_cons, exes_nil, exe, ev, evs, evi, go_ok, go_nx, bind_ok, pure_ok, of_some, at_ok, List.getElem?_cons_succ, List.getElem?_cons_zero, List.set_cons_succ, List.set_cons_zero, putS, setSV, kdOf, anyTr, lawIn, isTr, trI, List.length_cons, List.length_nil, wipeOk, List.all_cons, List.all_nil, wipeR, Option.bind_some, isOmit, endOf, intOf, getL, getT, getK, parOk, parS, ne_eq, not_false_eq_true, reduceCtorEq, decide_false, decide_true, Bool.or_false, Bool.false_or, Bool.or_true, Bool.true_or, Bool.and_true, Bool.true_and, Bool.not_true, Bool.not_false, Bool.false_eq_true, if_true, if_false, ite_true, ite_false, if_pos, Nat.reduceLT, Nat.reduceAdd, ↓reduceIte, tst, truD, Bool.and_self, Bool.and_false, Bool.false_and, Nat.lt_add_one, Nat.zero_lt_succ, Nat.lt_irrefl, List.append_nil, List.cons_append, List.nil_append, eqD_tupS, hz, hi, gtD_str]
  · have hz : lim ((strsD r).length + [PyData.str n].length) = true := by
      unfold lim strsD
      rw [List.length_map, List.length_singleton]
      have := hr r hrr
      exact decide_eq_true (by omega)
    have hb : binD .add (tupS r) (.tuple [.str n]) = some (tupS (r ++ [n])) := by
      show (if _ then _ else _) = _
      rw [if_pos hz]
      unfold tupS strsD
      rw [List.map_append]
      rfl
    simp only [exes_cons, exes_nil, exe, ev, evs, evi, go_ok, go_nx, bind_ok, pure_ok, of_some, at_ok, List.getElem?_cons_succ, List.getElem?_cons_zero, List.set_cons_succ, List.set_cons_zero, putS, setSV, kdOf, anyTr, lawIn, isTr, trI, List.length_cons, List.length_nil, wipeOk, List.all_cons, List.all_nil, wipeR, Option.bind_some, isOmit, endOf, intOf, getL, getT, getK, parOk, parS, ne_eq, not_false_eq_true, reduceCtorEq, decide_false, decide_true, Bool.or_false, Bool.false_or, Bool.or_true, Bool.true_or, Bool.and_true, Bool.true_and, Bool.not_true, Bool.not_false, Bool.false_eq_true, if_true, if_false, ite_true, ite_false, if_pos, Nat.reduceLT, Nat.reduceAdd, ↓reduceIte, tst, truD, Bool.and_self, Bool.and_false, Bool.false_and, Nat.lt_add_one, Nat.zero_lt_succ, Nat.lt_irrefl, List.append_nil, List.cons_append, List.nil_append, hb]
  · rw [← e]
    unfold lim
    rw [List.length_map]
    exact decide_eq_true (Nat.le_trans rowsN_len hl)
theorem least_in {g : G} (hw : WayT (g.fn 1)) {fl : Flow} (ho : FlowOk fl) {st z : Str} (hst : st ∈ nmsOf fl) {x3 x4 x5 x7 : Option SV} {k : Nat} : ∀ (rows : List (List Str)) (x6 : Option SV), (∀ l, x6 ≠ some (.own l)) ∧ (∀ t l, x6 ≠ some (.ownd t l)) →
    (∀ r, (rows.find? fun r => (wayN fl st z (some r)).isSome) = some r → forL (bindT (.nm 6)) (exes g bLeast1) (rows.map tupS) [some (.d (flD fl)), some (.d (.str st)), some (.d (.str z)), x3, x4, x5, x6, x7] k = .rt (tupS r) k) ∧
    ((rows.find? fun r => (wayN fl st z (some r)).isSome) = none → ∃ x6', ((∀ l, x6' ≠ some (.own l)) ∧ (∀ t l, x6' ≠ some (.ownd t l))) ∧ forL (bindT (.nm 6)) (exes g bLeast1) (rows.map tupS) [some (.d (flD fl)), some (.d (.str st)), some (.d (.str z)), x3, x4, x5, x6, x7] k = .nx [some (.d (flD fl)), some (.d (.str st)), some (.d (.str z)), x3, x4, x5, x6', x7] k)
  | [], x6, h6 => ⟨fun r h => (by cases h), fun _ => ⟨x6, h6, rfl⟩⟩
  | r :: rows, x6, h6 => by
    have e : g.fn 1 [flD fl, .str st, .str z, tupS r] = .ok (pO (wayN fl st z (some r))) := hw fl st z (some r) ho hst
    have ih := least_in hw ho hst (z := z) (x3 := x3) (x4 := x4) (x5 := x5) (x7 := x7) (k := k) rows (some (.d (tupS r))) ⟨by simp, by simp⟩
    rw [List.find?_cons, List.map_cons]
    cases hy : wayN fl st z (some r) with
    | some p =>
      rw [hy] at e
      have e2 : cmpD .IsNot (pO (some p)) .none = some true := rfl
      refine ⟨fun r' h => ?_, fun h => by cases h⟩
      have h : some r = some r' := h
      cases h
      refine forL_rt (ρ1 := [some (.d (flD fl)), some (.d (.str st)), some (.d (.str z)), x3, x4, x5, some (.d (tupS r)), x7]) rfl ?_
      simp only [exes_cons, exes_nil, exe, ev, evs, evi, go_ok, go_nx, bind_ok, pure_ok, of_some, at_ok, List.getElem?_cons_succ, List.getElem?_cons_zero, List.set_cons_succ, List.set_cons_zero, putS, setSV, kdOf, anyTr, lawIn, isTr, trI, List.length_cons, List.length_nil, wipeOk, List.all_cons, List.all_nil, wipeR, Option.bind_some, isOmit, endOf, intOf, getL, getT, getK, parOk, parS, ne_eq, not_false_eq_true, reduceCtorEq, decide_false, decide_true, Bool.or_false, Bool.false_or, Bool.or_true, Bool.true_or, Bool.and_true, Bool.true_and, Bool.not_true, Bool.not_false, Bool.false_eq_true, if_true, if_false, ite_true, ite_false, if_pos, Nat.reduceLT, Nat.reduceAdd, ↓reduceIte, tst, truD, Bool.and_self, Bool.and_false, Bool.false_and, Nat.lt_add_one, Nat.zero_lt_succ, Nat.lt_irrefl, List.append_nil, List.cons_append, List.nil_append, bLeast1, e, e2]
      rfl
    | none =>
      rw [hy] at e
      have e2 : cmpD .IsNot (pO none) .none = some false := rfl
      have s : exes g bLeast1 [some (.d (flD fl)), some (.d (.str st)), some (.d (.str z)), x3, x4, x5, some (.d (tupS r)), x7] k = .nx [some (.d (flD fl)), some (.d (.str st)), some (.d (.str z)), x3, x4, x5, some (.d (tupS r)), x7] k := by
        simp only [exes_cons, exes_nil, exe, ev, evs, evi, go_ok, go_nx, bind_ok, pure_ok, of_some, at_ok, List.getElem?_cons_succ, List.getElem?_cons_zero, List.set_cons_succ, List.set_cons_zero, putS, setSV, kdOf, anyTr, lawIn, isTr, trI, List.length_cons, List.length_nil, wipeOk, List.all_cons, List.all_nil, wipeR, Option.bind_some, isOmit, endOf, intOf, getL, getT, getK, parOk, parS, ne_eq, not_false_eq_true, reduceCtorEq, decide_false, decide_true, Bool.or_false, Bool.false_or, Bool.or_true, Bool.true_or, Bool.and_true, Bool.true_and, Bool.not_true, Bool.not_false, Bool.false_eq_true, if_true, if_false, ite_true, ite_false, if_pos, Nat.reduceLT, Nat.reduceAdd, ↓reduceIte, tst, truD, Bool.and_self, Bool.and_false, Bool.false_and, Nat.lt_add_one, Nat.zero_lt_succ, Nat.lt_irrefl, List.append_nil, List.cons_append, List.nil_append, bLeast1, e, e2]
      refine ⟨fun r' h => forL_nx rfl s (ih.1 r' h), fun h => ?_⟩
      obtain ⟨x6', a, b⟩ := ih.2 h
      exact ⟨x6', a, forL_nx rfl s b⟩
theorem k_least_c1 {ρ : Rho} : kdOf ρ least_c1 = .fr := rfl
theorem least_lp {g : G} (hw : WayT (g.fn 1)) {fl : Flow} (ho : FlowOk fl) {st z : Str} (hst : st ∈ nmsOf fl) {names : List Str} {k : Nat} : ∀ (l : List D) (rows : List (List Str)) (x5 x6 : Option SV), (∀ l, x6 ≠ some (.own l)) ∧ (∀ t l, x6 ≠ some (.ownd t l)) → rows.length * (names.length + 1) ^ l.length ≤ 16777216 → (∀ r ∈ rows, r.length + l.length ≤ 1000) →
    (∀ r, leastLp fl st z names l.length rows = some r → forL (bindT (.nm 5)) (exes g least_l2) l [some (.d (flD fl)), some (.d (.str st)), some (.d (.str z)), some (.d (.list (strsD names))), some (.d (.list (rows.map tupS))), x5, x6, none] k = .rt (tupS r) k) ∧
    (leastLp fl st z names l.length rows = none → ∃ ρ, forL (bindT (.nm 5)) (exes g least_l2) l [some (.d (flD fl)), some (.d (.str st)), some (.d (.str z)), some (.d (.list (strsD names))), some (.d (.list (rows.map tupS))), x5, x6, none] k = .nx ρ k)
  | [], rows, x5, x6, h6, _, _ => ⟨fun r h => (by cases h), fun _ => ⟨_, rfl⟩⟩
  | x :: l, rows, x5, x6, h6, hb, hl => by
    have hin := least_in hw ho hst (z := z) (x3 := some (.d (.list (strsD names)))) (x4 := some (.d (.list (rows.map tupS)))) (x5 := some (.d x)) (x7 := none) (k := k) rows x6 h6
    have hd : leastLp fl st z names (x :: l).length rows = match rows.find? fun r => (wayN fl st z (some r)).isSome with
      | some r => some r
      | none => leastLp fl st z names l.length (rowsN names rows) := rfl
    rw [hd]
    rw [List.length_cons, Nat.pow_succ] at hb
    cases hf : rows.find? fun r => (wayN fl st z (some r)).isSome with
    | some r =>
      refine ⟨fun r' h => ?_, fun h => by cases h⟩
      have h : some r = some r' := h
      cases h
      have e := hin.1 r hf
      refine forL_rt (ρ1 := [some (.d (flD fl)), some (.d (.str st)), some (.d (.str z)), some (.d (.list (strsD names))), some (.d (.list (rows.map tupS))), some (.d x), x6, none]) rfl ?_
      simp only [exes_cons, exes_nil, exe, ev, evs, evi, go_ok, go_nx, bind_ok, pure_ok, of_some, at_ok, List.getElem?_cons_succ, List.getElem?_cons_zero, List.set_cons_succ, List.set_cons_zero, putS, setSV, kdOf, anyTr, lawIn, isTr, trI, List.length_cons, List.length_nil, wipeOk, List.all_cons, List.all_nil, wipeR, Option.bind_some, isOmit, endOf, intOf, getL, getT, getK, parOk, parS, ne_eq, not_false_eq_true, reduceCtorEq, decide_false, decide_true, Bool.or_false, Bool.false_or, Bool.or_true, Bool.true_or, Bool.and_true, Bool.true_and, Bool.not_true, Bool.not_false, Bool.false_eq_true, if_true, if_false, ite_true, ite_false, if_pos, Nat.reduceLT, Nat.reduceAdd, ↓reduceIte, tst, truD, Bool.and_self, Bool.and_false, Bool.false_and, Nat.lt_add_one, Nat.zero_lt_succ, Nat.lt_irrefl, List.append_nil, List.cons_append, List.nil_append, least_l2, e]
      rfl
    | none =>
      obtain ⟨x6', h6', e⟩ := hin.2 hf
      have hpos : 1 ≤ (names.length + 1) ^ l.length := Nat.one_le_pow _ _ (Nat.succ_pos _)
      have hb' : rows.length * (names.length + 1) * (names.length + 1) ^ l.length ≤ 16777216 := by
        rw [Nat.mul_assoc, Nat.mul_comm (names.length + 1)]; exact hb
      have hb2 : rows.length * (names.length + 1) ≤ 16777216 := Nat.le_trans (Nat.le_mul_of_pos_right _ hpos) hb'
      have hb3 : rows.length * names.length ≤ rows.length * (names.length + 1) := Nat.mul_le_mul_left _ (Nat.le_succ _)
      have e2 := least_rows (g := g) (names := names) (rows := rows) (x0 := some (.d (flD fl))) (x1 := some (.d (.str st))) (x2 := some (.d (.str z))) (x5 := some (.d x)) (x6 := x6') (k := k) (Nat.le_trans hb3 hb2) (fun r hr => by have := hl r hr; omega) h6'.1 h6'.2
      have ih := least_lp hw ho hst (z := z) (names := names) (k := k) l (rowsN names rows) (some (.d x)) x6' h6' (Nat.le_trans (Nat.mul_le_mul_right _ (Nat.le_trans rowsN_len hb3)) hb') (fun r hr => by
        unfold rowsN growN at hr
        obtain ⟨r0, h0, h1⟩ := List.mem_flatMap.mp hr
        obtain ⟨n, _, rfl⟩ := List.mem_map.mp h1
        have := hl r0 h0
        rw [List.length_cons] at this
        rw [List.length_append, List.length_singleton]
        omega)
      have s : exes g least_l2 [some (.d (flD fl)), some (.d (.str st)), some (.d (.str z)), some (.d (.list (strsD names))), some (.d (.list (rows.map tupS))), some (.d x), x6, none] k = .nx [some (.d (flD fl)), some (.d (.str st)), some (.d (.str z)), some (.d (.list (strsD names))), some (.d (.list ((rowsN names rows).map tupS))), some (.d x), x6', none] k := by
        simp only [exes_cons, exes_nil, exe, ev, evs, evi, go_ok, go_nx, bind_ok, pure_ok, of_some, at_ok, List.getElem?_cons_succ, List.getElem?_cons_zero, List.set_cons_succ, List.set_cons_zero, putS, setSV, kdOf, anyTr, lawIn, isTr, trI, List.length_cons, List.length_nil, wipeOk, List.all_cons, List.all_nil, wipeR, Option.bind_some, isOmit, endOf, intOf, getL, getT, getK, parOk, parS, ne_eq, not_false_eq_true, reduceCtorEq, decide_false, decide_true, Bool.or_false, Bool.false_or, Bool.or_true, Bool.true_or, Bool.and_true, Bool.true_and, Bool.not_true, Bool.not_false, Bool.false_eq_true, if_true, if_false, ite_true, ite_false, if_pos, Nat.reduceLT, Nat.reduceAdd, ↓reduceIte, tst, truD, Bool.and_self, Bool.and_false, Bool.false_and, Nat.lt_add_one, Nat.zero_lt_succ, Nat.lt_irrefl, List.append_nil, List.cons_append, List.nil_append, least_l2, e, e2, k_least_c1]
      refine ⟨fun r' h => forL_nx rfl s (ih.1 r' h), fun h => ?_⟩
      obtain ⟨ρ, a⟩ := ih.2 h
      exact ⟨ρ, forL_nx rfl s a⟩
def least_b : Ss :=
      (.cons (.par [(3, false), (4, false)] (.cons (.call 0 (.cons (.var 0) .nil) .nil) (.cons (.lst (.cons (.tup .nil) .nil)) .nil)))
      (.cons (.forr (.nm 5) (.rng (.bin .add (.bi .len (.var 3)) (.cst (.int 1)))) least_l2)
      (.cons (.ret (.cst .none))
      .nil)))
theorem rangeN_len {n : Nat} : (rangeD (n : Int)).length = n := by unfold rangeD; simp
theorem len_lst {l : List Str} : biD .len (.list (strsD l)) = some (.int (l.length : Int)) := by
  show some (PyData.int ((strsD l).length : Int)) = _
  unfold strsD
  rw [List.length_map]
theorem len_tup {l : List Str} : biD .len (.tuple (strsD l)) = some (.int (l.length : Int)) := by
  show some (PyData.int ((strsD l).length : Int)) = _
  unfold strsD
  rw [List.length_map]
theorem least_run {g : G} (ha : AllT (g.fn 0)) (hw : WayT (g.fn 1)) : LeastT (runD g 3 5 least_b) := fun fl st z ho hst => by
  have e := ha fl ho
  have hf := rolesN_few ho
  have hln : (rangeD (((rolesN fl).length + 1 : Nat) : Int)).length = (rolesN fl).length + 1 := rangeN_len
  have hlp := least_lp (g := g) hw ho hst (z := z) (names := rolesN fl) (k := 0) (rangeD (((rolesN fl).length + 1 : Nat) : Int)) [[]] none none ⟨by simp, by simp⟩ (by
    rw [hln, List.length_singleton, Nat.one_mul]
    have : (rolesN fl).length = 0 ∨ (rolesN fl).length = 1 ∨ (rolesN fl).length = 2 ∨ (rolesN fl).length = 3 := by omega
    rcases this with h | h | h | h <;> rw [h] <;> decide) (by
    rw [hln]
    intro r hr
    rw [List.mem_singleton.mp hr]
    simp
    omega)
  rw [hln] at hlp
  refine runD_rt rfl rfl (k := 0) ?_
  show exes g least_b [some (.d (flD fl)), some (.d (.str st)), some (.d (.str z)), none, none, none, none, none] 0 = _
  have s1 : exe g (.par [(3, false), (4, false)] (.cons (.call 0 (.cons (.var 0) .nil) .nil) (.cons (.lst (.cons (.tup .nil) .nil)) .nil))) [some (.d (flD fl)), some (.d (.str st)), some (.d (.str z)), none, none, none, none, none] 0 = .nx [some (.d (flD fl)), some (.d (.str st)), some (.d (.str z)), some (.d (.list (strsD (rolesN fl)))), some (.d (.list ([[]].map tupS))), none, none, none] 0 := by
    simp only [exes_cons, exes_nil, exe, ev, evs, evi, go_ok, go_nx, bind_ok, pure_ok, of_some, at_ok, List.getElem?_cons_succ, List.getElem?_cons_zero, List.set_cons_succ, List.set_cons_zero, putS, setSV, kdOf, anyTr, lawIn, isTr, trI, List.length_cons, List.length_nil, wipeOk, List.all_cons, List.all_nil, wipeR, Option.bind_some, isOmit, endOf, intOf, getL, getT, getK, parOk, parS, ne_eq, not_false_eq_true, reduceCtorEq, decide_false, decide_true, Bool.or_false, Bool.false_or, Bool.or_true, Bool.true_or, Bool.and_true, Bool.true_and, Bool.not_true, Bool.not_false, Bool.false_eq_true, if_true, if_false, ite_true, ite_false, if_pos, Nat.reduceLT, Nat.reduceAdd, ↓reduceIte, tst, truD, Bool.and_self, Bool.and_false, Bool.false_and, Nat.lt_add_one, Nat.zero_lt_succ, Nat.lt_irrefl, List.append_nil, List.cons_append, List.nil_append, e]
    rfl
  have q : evi g (.rng (.bin .add (.bi .len (.var 3)) (.cst (.int 1)))) [some (.d (flD fl)), some (.d (.str st)), some (.d (.str z)), some (.d (.list (strsD (rolesN fl)))), some (.d (.list ([[]].map tupS))), none, none, none] 0 = .ok (rangeD (((rolesN fl).length + 1 : Nat) : Int), 0) := evi_rng (by simp only [exes_cons, exes_nil, exe, ev, evs, evi, go_ok, go_nx, bind_ok, pure_ok, of_some, at_ok, List.getElem?_cons_succ, List.getElem?_cons_zero, List.set_cons_succ, List.set_cons_zero, putS, setSV, kdOf, anyTr, lawIn, isTr, trI, List.length_cons, List.length_nil, wipeOk, List.all_cons, List.all_nil, wipeR, Option.bind_some, isOmit, endOf, intOf, getL, getT, getK, parOk, parS, ne_eq, not_false_eq_true, reduceCtorEq, decide_false, decide_true, Bool.or_false, Bool.false_or, Bool.or_true, Bool.true_or, Bool.and_true, Bool.true_and, Bool.not_true, Bool.not_false, Bool.false_eq_true, if_true, if_false, ite_true, ite_false, if_pos, Nat.reduceLT, Nat.reduceAdd, ↓reduceIte, tst, truD, Bool.and_self, Bool.and_false, Bool.false_and, Nat.lt_add_one, Nat.zero_lt_succ, Nat.lt_irrefl, List.append_nil, List.cons_append, List.nil_append, len_lst, add_int]; rfl) (by omega) (by omega)
  unfold least_b
  rw [exes_cons, s1, go_nx, exes_cons]
  unfold exe
  rw [q]
  show Out.go (forL _ _ _ _ _) _ = _
  unfold leastN
  cases hz : leastLp fl st z (rolesN fl) ((rolesN fl).length + 1) [[]] with
  | none =>
    obtain ⟨ρ, hρ⟩ := hlp.2 hz
    rw [hρ]
    rfl
  | some r =>
    rw [hlp.1 r hz]
    rfl
end Y

namespace Y
open PySem PySem.W PySem.Spec PyProof.Rows L2
/-! ### what the least roles are -/
def Rise (names r : List Str) : Prop := r.Pairwise (fun a b => ltS a b = true) ∧ ∀ x ∈ r, x ∈ names
theorem last_form {r : List Str} (h : r ≠ []) : r = r.dropLast ++ [r.getLastD ""] := by
  rw [List.getLastD_eq_getLast?, List.getLast?_eq_some_getLast h]
  exact (List.dropLast_concat_getLast h).symm
theorem rise_last {r : List Str} (h : r.Pairwise fun a b => ltS a b = true) : ∀ a ∈ r, a = r.getLastD "" ∨ ltS a (r.getLastD "") = true := fun a ha => by
  have hne : r ≠ [] := by intro z; rw [z] at ha; cases ha
  have e := last_form hne
  generalize hb : r.getLastD "" = b at *
  generalize r.dropLast = u at *
  subst e
  rw [List.pairwise_append] at h
  rcases List.mem_append.mp ha with q | q
  · exact .inr (h.2.2 a q b (List.mem_singleton.mpr rfl))
  · exact .inl (List.mem_singleton.mp q)
def RowsAt (names : List Str) (n : Nat) (rows : List (List Str)) : Prop := ∀ r, r ∈ rows ↔ Rise names r ∧ r.length = n
theorem rowsAt0 {names : List Str} : RowsAt names 0 [[]] := fun r => by
  rw [List.mem_singleton]
  constructor
  · rintro rfl
    exact ⟨⟨.nil, by simp⟩, rfl⟩
  · intro h
    exact List.length_eq_zero_iff.mp h.2
theorem rowsAtS {names : List Str} {n : Nat} {rows : List (List Str)} (h : RowsAt names n rows) : RowsAt names (n + 1) (rowsN names rows) := fun r => by
  unfold rowsN growN
  simp only [List.mem_flatMap, List.mem_map, List.mem_filter]
  constructor
  · rintro ⟨r0, h0, x, ⟨hx, hc⟩, rfl⟩
    obtain ⟨⟨h1, h2⟩, h3⟩ := (h r0).mp h0
    refine ⟨⟨?_, ?_⟩, by rw [List.length_append, h3]; rfl⟩
    · rw [List.pairwise_append]
      refine ⟨h1, by simp, ?_⟩
      intro a ha b hb
      rw [List.mem_singleton.mp hb]
      have hne : r0.isEmpty = false := by
        cases r0 with
        | nil => cases ha
        | cons _ _ => rfl
      rw [hne, Bool.false_or] at hc
      rcases rise_last h1 a ha with q | q
      · rw [q]; exact hc
      · exact ltS_trans q hc
    · intro y hy
      rcases List.mem_append.mp hy with q | q
      · exact h2 y q
      · rw [List.mem_singleton.mp q]; exact hx
  · rintro ⟨⟨h1, h2⟩, h3⟩
    have hne : r ≠ [] := by intro z; rw [z] at h3; cases h3
    have e := last_form hne
    generalize hb : r.getLastD "" = b at e
    generalize r.dropLast = u at e
    subst e
    rw [List.pairwise_append] at h1
    rw [List.length_append, List.length_singleton] at h3
    refine ⟨u, (h u).mpr ⟨⟨h1.1, fun x hx => h2 x (List.mem_append_left _ hx)⟩, by omega⟩, b, ⟨h2 b (List.mem_append_right _ (List.mem_singleton.mpr rfl)), ?_⟩, rfl⟩
    cases hz : u.isEmpty with
    | true => rfl
    | false =>
      have hu : u ≠ [] := by intro z; rw [z] at hz; cases hz
      rw [Bool.false_or]
      have hm : u.getLastD "" ∈ u := by
        rw [List.getLastD_eq_getLast?, List.getLast?_eq_some_getLast hu]
        exact List.getLast_mem hu
      exact h1.2.2 _ hm b (List.mem_singleton.mpr rfl)
theorem leastLp_some {fl : Flow} {st z : Str} {names : List Str} : ∀ {n i : Nat} {rows : List (List Str)} {r : List Str}, RowsAt names i rows → leastLp fl st z names n rows = some r → (wayN fl st z (some r)).isSome = true ∧ Rise names r ∧ ∀ r', Rise names r' → r'.length < r.length → i ≤ r'.length → wayN fl st z (some r') = none
  | 0, _, _, _, _, h => by cases h
  | n + 1, i, rows, r, hr, h => by
    have hd : leastLp fl st z names (n + 1) rows = match rows.find? fun r => (wayN fl st z (some r)).isSome with
      | some r => some r
      | none => leastLp fl st z names n (rowsN names rows) := rfl
    rw [hd] at h
    cases hf : rows.find? fun r => (wayN fl st z (some r)).isSome with
    | some r0 =>
      rw [hf] at h
      have h : some r0 = some r := h
      cases h
      have h1 := List.mem_of_find?_eq_some hf
      have h2 := List.find?_some hf
      obtain ⟨a, b⟩ := (hr _).mp h1
      exact ⟨h2, a, fun r' _ h3 h4 => by omega⟩
    | none =>
      rw [hf] at h
      obtain ⟨a, b, c⟩ := leastLp_some (rowsAtS hr) h
      refine ⟨a, b, fun r' h1 h2 h3 => ?_⟩
      by_cases hi : r'.length = i
      · have := List.find?_eq_none.mp hf r' ((hr r').mpr ⟨h1, hi⟩)
        simpa using this
      · exact c r' h1 h2 (by omega)
theorem leastLp_none {fl : Flow} {st z : Str} {names : List Str} : ∀ {n i : Nat} {rows : List (List Str)}, RowsAt names i rows → leastLp fl st z names n rows = none → ∀ r', Rise names r' → i ≤ r'.length → r'.length < i + n → wayN fl st z (some r') = none
  | 0, _, _, _, _ => fun r' _ _ _ => by omega
  | n + 1, i, rows, hr, h => fun r' h1 h2 h3 => by
    have hd : leastLp fl st z names (n + 1) rows = match rows.find? fun r => (wayN fl st z (some r)).isSome with
      | some r => some r
      | none => leastLp fl st z names n (rowsN names rows) := rfl
    rw [hd] at h
    cases hf : rows.find? fun r => (wayN fl st z (some r)).isSome with
    | some r0 =>
      rw [hf] at h
      cases h
    | none =>
      rw [hf] at h
      by_cases hi : r'.length = i
      · have := List.find?_eq_none.mp hf r' ((hr r').mpr ⟨h1, hi⟩)
        simpa using this
      · exact leastLp_none (rowsAtS hr) h r' h1 (by omega) (by omega)
theorem Led.inroles {fl : Flow} (ho : FlowOk fl) {x z : Str} {ws : List Str} (h : Led fl none x ws z) : Led fl (some (rolesN fl)) x ws z := by
  induction h with
  | nil => exact .nil
  | snoc _ hm ih =>
    obtain ⟨m, hm, h1, h2, h3, _⟩ := hm
    refine .snoc ih ⟨m, hm, h1, h2, h3, ?_⟩
    have hne := (ho.mv m hm).2.2.2.1
    cases hr : m.roles with
    | nil => exact absurd hr hne
    | cons r rs =>
      refine List.any_eq_true.mpr ⟨r, rolesN_mem.mpr ⟨m, hm, by rw [hr]; exact List.mem_cons_self ..⟩, ?_⟩
      rw [hr]
      simp
theorem least_none {fl : Flow} (ho : FlowOk fl) {st z : Str} (hst : st ∈ nmsOf fl) : leastN fl st z = none ↔ wayN fl st z none = none := by
  constructor
  · intro h
    cases hw : wayN fl st z none with
    | none => rfl
    | some p =>
      have h1 := (wayN_some ho hst hw).inroles ho
      obtain ⟨q, hq, _⟩ := wayN_full ho hst h1
      have := leastLp_none rowsAt0 h (rolesN fl) ⟨rolesN_rise, fun _ h => h⟩ (Nat.zero_le _) (by omega)
      rw [hq] at this
      cases this
  · intro h
    cases hl : leastN fl st z with
    | none => rfl
    | some r =>
      obtain ⟨a, _, _⟩ := leastLp_some rowsAt0 hl
      obtain ⟨w, hw⟩ := (wayN_iff ho hst).mp a
      obtain ⟨q, hq, _⟩ := wayN_full ho hst hw.more
      rw [h] at hq
      cases hq
theorem least_some {fl : Flow} {st z : Str} {r : List Str} (h : leastN fl st z = some r) : (wayN fl st z (some r)).isSome = true ∧ ∀ i < r.length, wayN fl st z (some (r.take i ++ r.drop (i + 1))) = none := by
  obtain ⟨a, b, c⟩ := leastLp_some rowsAt0 h
  refine ⟨a, fun i hi => c _ ?_ ?_ (Nat.zero_le _)⟩
  · rw [← List.eraseIdx_eq_take_drop_succ]
    exact ⟨b.1.sublist (List.eraseIdx_sublist ..), fun x hx => b.2 x ((List.eraseIdx_sublist ..).subset hx)⟩
  · rw [List.length_append, List.length_take, List.length_drop]
    omega
/-! ### the pair's law -/
theorem eqO_str {x : Option Str} {b : Str} : cmpD .Eq (strO x) (.str b) = some (decide (x = some b)) := by
  cases x with
  | none =>
    show eqD _ _ = _
    unfold eqD strO
    rw [dOk_str, show dOk .none = true from rfl]
    show some (PyData.eqv .none (.str b)) = _
    rw [PyData.eqv]
    · rfl
    all_goals simp
  | some a =>
    show cmpD .Eq (.str a) (.str b) = _
    rw [eqD_str]
    simp
theorem neO_str {x : Option Str} {b : Str} : cmpD .NotEq (strO x) (.str b) = some (!decide (x = some b)) := by
  have := eqO_str (x := x) (b := b)
  show (eqD _ _).map _ = _
  rw [show eqD (strO x) (.str b) = _ from this]
  rfl
theorem eqD_bool {a b : Bool} : cmpD .Eq (.bool a) (.bool b) = some (decide (a = b)) := by
  cases a <;> cases b <;> rfl
theorem neD_bool {a b : Bool} : cmpD .NotEq (.bool a) (.bool b) = some (!decide (a = b)) := by
  cases a <;> cases b <;> rfl
theorem isP {x : Option (List Str)} : cmpD .Is (pO x) .none = some x.isNone := by cases x <;> rfl
theorem isntP {x : Option (List Str)} : cmpD .IsNot (pO x) .none = some x.isSome := by cases x <;> rfl
theorem sl_take {l : List Str} {h : Nat} : slD (.tuple (strsD l)) none (some (h : Int)) = some (.tuple (strsD (l.take h))) := by
  show some (PyData.tuple (cutD (strsD l) none (some (h : Int)))) = _
  unfold cutD
  have h1 : HT.sIx (strsD l).length 0 none = 0 := rfl
  have h2 : HT.sIx (strsD l).length (strsD l).length (some (h : Int)) = min h (strsD l).length := by
    unfold HT.sIx
    simp
    omega
  rw [h1, h2, List.drop_zero]
  unfold strsD
  rw [List.map_take, Nat.sub_zero, List.take_eq_take_iff.mpr]
  simp
theorem sl_drop {l : List Str} {h : Nat} : slD (.tuple (strsD l)) (some (h : Int)) none = some (.tuple (strsD (l.drop h))) := by
  show some (PyData.tuple (cutD (strsD l) (some (h : Int)) none)) = _
  unfold cutD
  have h1 : HT.sIx (strsD l).length 0 (some (h : Int)) = min h (strsD l).length := by
    unfold HT.sIx
    simp
    omega
  have h2 : HT.sIx (strsD l).length (strsD l).length none = (strsD l).length := rfl
  rw [h1, h2]
  unfold strsD
  rw [List.map_drop, List.take_of_length_le (by simp), List.length_map]
  by_cases hl : h ≤ l.length
  · rw [Nat.min_eq_left hl]
  · rw [Nat.min_eq_right (by omega), List.drop_of_length_le (by simp), List.drop_of_length_le (by simp; omega)]
end Y

namespace Y
open PySem PySem.W PySem.Spec PyProof.Rows L2
/-! ### words that the laws' loops share -/
/-- a value that the frame doesn't own -/
def Junk (x : Option SV) : Prop := (∀ l, x ≠ some (.own l)) ∧ (∀ t l, x ≠ some (.ownd t l))
theorem junk_d {x : D} : Junk (some (.d x)) := ⟨by simp, by simp⟩
theorem junk_n : Junk none := ⟨by simp, by simp⟩
theorem wipe1 {ρ : Rho} {i : Nat} {x : Option SV} (h : ρ[i]? = some x) (hj : Junk x) : wipeOk ρ [i] = true := by
  unfold wipeOk
  rw [List.all_cons, List.all_nil, h, Bool.and_true]
  cases x with
  | none => rfl
  | some sv =>
    cases sv with
    | own l => exact absurd rfl (hj.1 l)
    | ownd t l => exact absurd rfl (hj.2 t l)
    | _ => rfl
theorem wipe2 {ρ : Rho} {i j : Nat} {x y : Option SV} (h : ρ[i]? = some x) (hj : Junk x) (h' : ρ[j]? = some y) (hj' : Junk y) : wipeOk ρ [i, j] = true := by
  have h1 := wipe1 h hj
  have h2 := wipe1 h' hj'
  unfold wipeOk at *
  simp only [List.all_cons, List.all_nil, Bool.and_true] at h1 h2 ⊢
  rw [h1, h2]
  rfl
theorem drawn_comp {bnd : D → Option Rho} {t : Rho → Nat → R (Bool × Nat)} {elt : Rho → Nat → R (D × Nat)} {ρ : Str → Rho} (hb : ∀ s, bnd (.str s) = some (ρ s)) (ht : ∀ s d, d < 1000 → ∃ b, t (ρ s) (3 * d) = .ok (b, 3 * (d + 1))) (he : ∀ s k, elt (ρ s) k = .ok (.str s, k)) :
    ∀ (l : List Str) (d : Nat), d + l.length < 1000 → ∃ part, compL bnd t elt (strsD l) (3 * d) = .ok (strsD part, 3 * (d + l.length))
  | [], d, _ => ⟨[], rfl⟩
  | a :: l, d, h => by
    rw [List.length_cons] at h
    obtain ⟨b, e⟩ := ht a d (by omega)
    obtain ⟨part, ih⟩ := drawn_comp hb ht he l (d + 1) (by omega)
    have ek : d + (a :: l).length = d + 1 + l.length := by rw [List.length_cons]; omega
    rw [ek]
    cases b with
    | true => exact ⟨a :: part, compL_t (hb a) e (he a _) ih⟩
    | false => exact ⟨part, compL_f (hb a) e ih⟩
theorem stuckAt_iff {fl : Flow} {rl : Option (List Str)} {s : Str} : stuckAt fl rl s = true ↔ ∀ x ∈ reachN fl s rl, x ∉ endsN fl := by
  unfold stuckAt
  rw [Bool.not_eq_true', List.any_eq_false]
  simp
theorem eqD_lstS {r : List Str} : cmpD .Eq (.list (strsD r)) (.list []) = some r.isEmpty := by
  have h := dOk_list (l := strsD r) (n := 0) (fun y hy => by
    obtain ⟨z, _, e⟩ := List.mem_map.mp hy
    rw [← e]; rfl) (fun y hy => by
    obtain ⟨z, _, e⟩ := List.mem_map.mp hy
    rw [← e, PyData.depth]; exact Nat.le_refl _) (by decide)
  show eqD _ _ = _
  unfold eqD
  rw [h.1, show dOk (.list []) = true from rfl]
  cases r with
  | nil => rfl
  | cons a r =>
    show some (PyData.eqv (.list (.str a :: strsD r)) (.list [])) = _
    rw [PyData.eqv, PyData.eqvAll]
    rfl
theorem ends_iff {fl : Flow} (ho : FlowOk fl) {x : Str} (hx : x ∈ nmsOf fl) : x ∈ endsN fl ↔ sortN fl x = "done" := by
  obtain ⟨q, hq, rfl⟩ := List.mem_map.mp hx
  rw [sortN_of ho hq]
  unfold endsN
  constructor
  · intro h
    obtain ⟨r, hr, e⟩ := List.mem_map.mp h
    rw [List.mem_filter] at hr
    have e1 := sortN_of ho hq
    have e2 := sortN_of ho hr.1
    have e : r.1 = q.1 := e
    rw [e] at e2
    rw [← e1, e2]
    exact of_decide_eq_true hr.2
  · intro h
    exact List.mem_map_of_mem (List.mem_filter.mpr ⟨hq, decide_eq_true h⟩)
theorem dOk_strs {r : List Str} : dOk (.list (strsD r)) = true ∧ dOk (.tuple (strsD r)) = true := dOk_list (n := 0) (fun y hy => by
    obtain ⟨z, _, e⟩ := List.mem_map.mp hy
    rw [← e]; rfl) (fun y hy => by
    obtain ⟨z, _, e⟩ := List.mem_map.mp hy
    rw [← e, PyData.depth]; exact Nat.le_refl _) (by decide)
theorem eqv_strs : ∀ a b : List Str, PyData.eqvAll (strsD a) (strsD b) = decide (a = b)
  | [], [] => rfl
  | [], _ :: _ => rfl
  | _ :: _, [] => rfl
  | x :: a, y :: b => by
    show (PyData.eqv (.str x) (.str y) && PyData.eqvAll (strsD a) (strsD b)) = _
    rw [eqv_strs a b, PyData.eqv]
    by_cases h : x = y
    · rw [h]; simp
    · simp [h]
theorem eqD_strs {a b : List Str} : cmpD .Eq (.tuple (strsD a)) (.tuple (strsD b)) = some (decide (a = b)) := by
  show eqD _ _ = _
  unfold eqD
  rw [dOk_strs.2, dOk_strs.2]
  show some (PyData.eqv _ _) = _
  rw [PyData.eqv, eqv_strs]
theorem neD_strs {a b : List Str} : cmpD .NotEq (.tuple (strsD a)) (.tuple (strsD b)) = some (!decide (a = b)) := by
  have h : cmpD .NotEq (.tuple (strsD a)) (.tuple (strsD b)) = (cmpD .Eq (.tuple (strsD a)) (.tuple (strsD b))).map (fun z => !z) := rfl
  rw [h, eqD_strs]
  rfl
/-- the three roles, drawn -/
def rolesC (i : Nat) : E := .comp [i] (.nm i) (.tup (.tup (.cons (.cst (.str "boss")) (.cons (.cst (.str "dev")) (.cons (.cst (.str "guest")) .nil))))) (.cmp .Eq (.callT 1 (.cons (.cst (.int 2)) .nil)) (.cst (.int 0))) (.var i)
end Y

namespace Y.N02
open PySem PySem.W PySem.Spec PyProof.Rows L2
/-! ### ways by hand -/
def hMoves (st : Str) (rl : Option (List Str)) (l : List Mv) : List Mv := l.filter fun m => decide (m.beg = st) && mayDo m rl
abbrev Row := Str × List Str
def longN (fl : Flow) (rl : Option (List Str)) (rows : List Row) : List Row := rows.flatMap fun r => (hMoves r.1 rl fl.moves).map fun m => (m.goal, r.2 ++ [m.word])
def addN (s : Fd × List Row) (r : Row) : Fd × List Row := if fget s.1 r.1 = none then (s.1 ++ [r], s.2 ++ [r]) else s
def levelN (fl : Flow) (rl : Option (List Str)) (s : Fd × List Row) : Fd × List Row := (longN fl rl s.2).foldl addN (s.1, [])
def handN (fl : Flow) (rl : Option (List Str)) : Nat → Fd × List Row → Fd × List Row
  | 0, s => s
  | n + 1, s => handN fl rl n (levelN fl rl s)
def hWays (fl : Flow) (st : Str) (rl : Option (List Str)) : Fd := (handN fl rl fl.states.length ([(st, [])], [(st, [])])).1
/-- what is added, in order -/
theorem addN_new : ∀ (l : List Row) (f : Fd) (acc : List Row), ∃ new : List Row, l.foldl addN (f, acc) = (f ++ new, acc ++ new) ∧ ∀ acc', l.foldl addN (f, acc') = (f ++ new, acc' ++ new)
  | [], f, acc => ⟨[], by simp, by simp⟩
  | r :: l, f, acc => by
    by_cases h : fget f r.1 = none
    · obtain ⟨new, e, e2⟩ := addN_new l (f ++ [r]) (acc ++ [r])
      have s : ∀ acc, (r :: l).foldl addN (f, acc) = l.foldl addN (f ++ [r], acc ++ [r]) := fun acc => by
        rw [List.foldl_cons]
        unfold addN
        rw [if_pos h]
      refine ⟨r :: new, ?_, fun acc' => ?_⟩
      · rw [s, e]; simp
      · rw [s, e2]; simp
    · obtain ⟨new, e, e2⟩ := addN_new l f acc
      have s : ∀ acc, (r :: l).foldl addN (f, acc) = l.foldl addN (f, acc) := fun acc => by
        rw [List.foldl_cons]
        unfold addN
        rw [if_neg h]
      exact ⟨new, by rw [s, e], fun acc' => by rw [s, e2]⟩
theorem addN_sub : ∀ (l : List Row) (f : Fd) (acc : List Row), ∀ r ∈ (l.foldl addN (f, acc)).2, r ∈ acc ∨ r ∈ l
  | [], f, acc, r, h => .inl h
  | a :: l, f, acc, r, h => by
    rw [List.foldl_cons] at h
    unfold addN at h
    by_cases hn : fget f a.1 = none
    · rw [if_pos hn] at h
      rcases addN_sub l _ _ r h with q | q
      · rcases List.mem_append.mp q with z | z
        · exact .inl z
        · exact .inr (List.mem_singleton.mp z ▸ List.mem_cons_self ..)
      · exact .inr (List.mem_cons_of_mem _ q)
    · rw [if_neg hn] at h
      rcases addN_sub l _ _ r h with q | q
      · exact .inl q
      · exact .inr (List.mem_cons_of_mem _ q)
theorem wayIn_add {rl : Option (List Str)} {here : Str} {p : List Str} : ∀ (l : List Mv) (f : Fd) (acc : List Row), wayIn rl here p l f (acc.map (·.1)) = (let s := ((hMoves here rl l).map fun m => (m.goal, p ++ [m.word])).foldl addN (f, acc); (s.1, s.2.map (·.1)))
  | [], f, acc => rfl
  | m :: l, f, acc => by
    unfold wayIn hMoves
    by_cases h1 : m.beg = here ∧ mayDo m rl = true
    · rw [List.filter_cons_of_pos (by simp [h1.1, h1.2]), List.map_cons, List.foldl_cons]
      by_cases h2 : fget f m.goal = none
      · rw [if_pos ⟨h1.1, h2, h1.2⟩]
        have ih := wayIn_add (rl := rl) (here := here) (p := p) l (f ++ [(m.goal, p ++ [m.word])]) (acc ++ [(m.goal, p ++ [m.word])])
        rw [List.map_append] at ih
        have e : addN (f, acc) (m.goal, p ++ [m.word]) = (f ++ [(m.goal, p ++ [m.word])], acc ++ [(m.goal, p ++ [m.word])]) := by
          unfold addN
          rw [if_pos h2]
        rw [e]
        exact ih
      · rw [if_neg fun z => h2 z.2.1]
        have e : addN (f, acc) (m.goal, p ++ [m.word]) = (f, acc) := by
          unfold addN
          rw [if_neg h2]
        rw [e]
        exact wayIn_add l f acc
    · rw [List.filter_cons_of_neg (by intro z; simp at z; exact h1 z), if_neg fun z => h1 ⟨z.1, z.2.2⟩]
      exact wayIn_add l f acc
theorem ext_new {f : Fd} {new : List Row} : ∀ x p, fget f x = some p → fget (f ++ new) x = some p := fun x p h => fget_app_some h
theorem level_loop {fl : Flow} {rl : Option (List Str)} : ∀ (rows : List Row) (f : Fd) (acc : List Row) (n : Nat), (∀ r ∈ rows, fget f r.1 = some r.2) →
    wayLoop fl rl (n + rows.length) f (rows.map (·.1) ++ acc.map (·.1)) = (let s := (longN fl rl rows).foldl addN (f, acc); wayLoop fl rl n s.1 (s.2.map (·.1)))
  | [], f, acc, n, _ => rfl
  | r :: rows, f, acc, n, h => by
    have hr := h r (List.mem_cons_self ..)
    rw [List.length_cons, ← Nat.add_assoc, List.map_cons, List.cons_append]
    show wayLoop fl rl (n + rows.length) (wayIn rl r.1 ((fget f r.1).getD []) fl.moves f (rows.map (·.1) ++ acc.map (·.1))).1 (wayIn rl r.1 ((fget f r.1).getD []) fl.moves f (rows.map (·.1) ++ acc.map (·.1))).2 = _
    rw [hr]
    show wayLoop fl rl (n + rows.length) (wayIn rl r.1 r.2 fl.moves f (rows.map (·.1) ++ acc.map (·.1))).1 (wayIn rl r.1 r.2 fl.moves f (rows.map (·.1) ++ acc.map (·.1))).2 = _
    rw [← List.map_append, wayIn_add]
    obtain ⟨new, e1, e2⟩ := addN_new ((hMoves r.1 rl fl.moves).map fun m => (m.goal, r.2 ++ [m.word])) f (rows ++ acc)
    have e3 : longN fl rl (r :: rows) = (hMoves r.1 rl fl.moves).map (fun m => (m.goal, r.2 ++ [m.word])) ++ longN fl rl rows := rfl
    rw [e3, List.foldl_append, e1, e2 acc]
    have ih := level_loop (fl := fl) (rl := rl) rows (f ++ new) (acc ++ new) n fun q hq => ext_new _ _ (h q (List.mem_cons_of_mem _ hq))
    rw [← ih]
    show wayLoop fl rl (n + rows.length) (f ++ new) ((rows ++ acc ++ new).map (·.1)) = _
    rw [List.append_assoc, List.map_append]
/-- what stands between the levels -/
structure HInv (fl : Flow) (st : Str) (rl : Option (List Str)) (k : Nat) (s : Fd × List Row) : Prop where
  nd : (s.1.map (·.1)).Nodup
  sub : ∀ x ∈ s.1.map (·.1), x ∈ nmsOf fl
  row : ∀ r ∈ s.2, fget s.1 r.1 = some r.2
  short : ∀ r ∈ s.2, r.2.length ≤ k
  many : s.2 ≠ [] → k + 1 ≤ s.1.length
  loop : ∃ used, used + s.2.length ≤ s.1.length ∧ waysF fl st rl = wayLoop fl rl (1000 - used) s.1 (s.2.map (·.1))
theorem addN_inv {fl : Flow} : ∀ (l : List Row) (f : Fd) (acc : List Row), (∀ r ∈ l, r.1 ∈ nmsOf fl) → (f.map (·.1)).Nodup → (∀ x ∈ f.map (·.1), x ∈ nmsOf fl) → (∀ r ∈ acc, fget f r.1 = some r.2) →
    ((l.foldl addN (f, acc)).1.map (·.1)).Nodup ∧ (∀ x ∈ (l.foldl addN (f, acc)).1.map (·.1), x ∈ nmsOf fl) ∧ ∀ r ∈ (l.foldl addN (f, acc)).2, fget (l.foldl addN (f, acc)).1 r.1 = some r.2
  | [], f, acc, _, h2, h3, h4 => ⟨h2, h3, h4⟩
  | r :: l, f, acc, h1, h2, h3, h4 => by
    rw [List.foldl_cons]
    unfold addN
    by_cases h : fget f r.1 = none
    · rw [if_pos h]
      refine addN_inv l (f ++ [r]) (acc ++ [r]) (fun q hq => h1 q (List.mem_cons_of_mem _ hq)) ?_ ?_ ?_
      · rw [List.map_append, List.nodup_append]
        refine ⟨h2, by simp, ?_⟩
        intro a ha b hb e
        have hb' : b = r.1 := by simpa using hb
        rw [e, hb'] at ha
        exact fget_none.mp h ha
      · intro x hx
        rw [List.map_append] at hx
        rcases List.mem_append.mp hx with q | q
        · exact h3 x q
        · have : x = r.1 := by simpa using q
          rw [this]; exact h1 r (List.mem_cons_self ..)
      · intro q hq
        rcases List.mem_append.mp hq with z | z
        · exact ext_new _ _ (h4 q z)
        · rw [List.mem_singleton.mp z, fget_app_none h]
          exact if_pos rfl
    · rw [if_neg h]
      exact addN_inv l f acc (fun q hq => h1 q (List.mem_cons_of_mem _ hq)) h2 h3 h4
theorem long_in {fl : Flow} (ho : FlowOk fl) {rl : Option (List Str)} {rows : List Row} : ∀ r ∈ longN fl rl rows, r.1 ∈ nmsOf fl := fun r hr => by
  obtain ⟨q, _, h⟩ := List.mem_flatMap.mp hr
  obtain ⟨m, hm, rfl⟩ := List.mem_map.mp h
  exact (ho.mv m (List.mem_filter.mp hm).1).2.1
theorem HInv.few {fl : Flow} (ho : FlowOk fl) {st : Str} {rl : Option (List Str)} {k : Nat} {s : Fd × List Row} (w : HInv fl st rl k s) : s.1.length ≤ fl.states.length := by
  have := w.nd.length_le_of_subset (l₂ := nmsOf fl) w.sub
  unfold nmsOf at this
  rw [List.length_map, List.length_map] at this
  exact this
theorem HInv.step {fl : Flow} (ho : FlowOk fl) {st : Str} {rl : Option (List Str)} {k : Nat} {s : Fd × List Row} (w : HInv fl st rl k s) : HInv fl st rl (k + 1) (levelN fl rl s) := by
  obtain ⟨f, rows⟩ := s
  obtain ⟨new, e1, e2⟩ := addN_new (longN fl rl rows) f []
  have inv := addN_inv (fl := fl) (longN fl rl rows) f [] (long_in ho) w.nd w.sub (by simp)
  have few := w.few ho
  have few6 := ho.few
  rw [e1, List.nil_append] at inv
  have el : levelN fl rl (f, rows) = (f ++ new, new) := by
    unfold levelN
    rw [e1, List.nil_append]
  rw [el]
  refine ⟨inv.1, inv.2.1, inv.2.2, fun r hr => ?_, fun hne => ?_, ?_⟩
  · have hr' : r ∈ ((longN fl rl rows).foldl addN (f, [])).2 := by rw [e1, List.nil_append]; exact hr
    rcases addN_sub _ _ _ r hr' with q | q
    · cases q
    · obtain ⟨p, hp, hq⟩ := List.mem_flatMap.mp q
      obtain ⟨m, _, rfl⟩ := List.mem_map.mp hq
      have := w.short p hp
      show (p.2 ++ [m.word]).length ≤ k + 1
      rw [List.length_append, List.length_singleton]
      omega
  · have hrows : rows ≠ [] := by
      intro z
      subst z
      have : new = [] := by
        have z : (longN fl rl []).foldl addN (f, []) = (f, []) := rfl
        rw [e1] at z
        have := (Prod.mk.inj z).2
        simpa using this
      exact hne this
    have h1 := w.many hrows
    have h2 : 0 < new.length := List.length_pos_iff.mpr hne
    show k + 1 + 1 ≤ (f ++ new).length
    rw [List.length_append]
    have h1 : k + 1 ≤ f.length := h1
    omega
  · obtain ⟨used, h1, h2⟩ := w.loop
    have h1 : used + rows.length ≤ f.length := h1
    have few : f.length ≤ fl.states.length := few
    refine ⟨used + rows.length, ?_, ?_⟩
    · show used + rows.length + new.length ≤ (f ++ new).length
      rw [List.length_append]
      omega
    · rw [h2]
      have e : 1000 - used = (1000 - (used + rows.length)) + rows.length := by omega
      have := level_loop (fl := fl) (rl := rl) rows f [] (1000 - (used + rows.length)) w.row
      rw [e1, List.nil_append, List.map_nil, List.append_nil, ← e] at this
      exact this
theorem hand_inv {fl : Flow} (ho : FlowOk fl) {st : Str} {rl : Option (List Str)} : ∀ (n k : Nat) (s : Fd × List Row), HInv fl st rl k s → HInv fl st rl (k + n) (handN fl rl n s)
  | 0, k, s, w => w
  | n + 1, k, s, w => by
    have := hand_inv ho n (k + 1) _ (w.step ho)
    rw [show k + (n + 1) = k + 1 + n from by omega]
    exact this
theorem hinv0 {fl : Flow} {st : Str} (hst : st ∈ nmsOf fl) {rl : Option (List Str)} : HInv fl st rl 0 ([(st, [])], [(st, [])]) := ⟨by simp, by simpa using hst, by simp [fget], by simp, fun _ => by simp, ⟨0, by simp, rfl⟩⟩
theorem hWays_eq {fl : Flow} (ho : FlowOk fl) {st : Str} (hst : st ∈ nmsOf fl) {rl : Option (List Str)} : hWays fl st rl = waysF fl st rl := by
  have w0 : HInv fl st rl 0 ([(st, [])], [(st, [])]) := hinv0 hst
  have w := hand_inv ho fl.states.length 0 _ w0
  rw [Nat.zero_add] at w
  have hn : (handN fl rl fl.states.length ([(st, [])], [(st, [])])).2 = [] := by
    cases e : (handN fl rl fl.states.length ([(st, [])], [(st, [])])).2 with
    | nil => rfl
    | cons r rs =>
      have h1 := w.many (by rw [e]; simp)
      have h2 := w.few ho
      omega
  obtain ⟨used, _, h⟩ := w.loop
  rw [hn, List.map_nil] at h
  rw [h]
  unfold hWays
  cases 1000 - used <;> rfl
end Y.N02

namespace Y.N02
open PySem PySem.W PySem.Spec PyProof.Rows L2
/-! ### the least roles by hand -/
def hSets (names : List Str) : List (List Str) := names.foldl (fun sets n => sets ++ sets.map fun r => r ++ [n]) [[]]
theorem hSets_snoc {names : List Str} {n : Str} : hSets (names ++ [n]) = hSets names ++ (hSets names).map fun r => r ++ [n] := by
  unfold hSets
  rw [List.foldl_append]
  rfl
theorem hSets_iff : ∀ (m : Nat) (names : List Str), names.length = m → names.Pairwise (fun a b => ltS a b = true) → ∀ r, r ∈ hSets names ↔ Rise names r
  | 0, names, hm, _, r => by
    rw [List.length_eq_zero_iff.mp hm]
    show r ∈ [[]] ↔ _
    rw [List.mem_singleton]
    constructor
    · rintro rfl
      exact ⟨.nil, by simp⟩
    · intro h
      cases r with
      | nil => rfl
      | cons a r => exact absurd (h.2 a (List.mem_cons_self ..)) (by simp)
  | m + 1, names, hm, hp, r => by
    have hne : names ≠ [] := by intro z; rw [z] at hm; cases hm
    have e := last_form hne
    generalize hb : names.getLastD "" = n at e
    generalize names.dropLast = u at e
    subst e
    rw [List.length_append, List.length_singleton] at hm
    rw [List.pairwise_append] at hp
    have ih := hSets_iff m u (by omega) hp.1
    have lt : ∀ a ∈ u, ltS a n = true := fun a ha => hp.2.2 a ha n (List.mem_singleton.mpr rfl)
    rw [hSets_snoc, List.mem_append, List.mem_map]
    constructor
    · rintro (h | ⟨r0, h, rfl⟩)
      · obtain ⟨h1, h2⟩ := (ih r).mp h
        exact ⟨h1, fun x hx => List.mem_append_left _ (h2 x hx)⟩
      · obtain ⟨h1, h2⟩ := (ih r0).mp h
        refine ⟨?_, fun x hx => ?_⟩
        · rw [List.pairwise_append]
          refine ⟨h1, by simp, fun a ha b hb => ?_⟩
          rw [List.mem_singleton.mp hb]
          exact lt a (h2 a ha)
        · rcases List.mem_append.mp hx with q | q
          · exact List.mem_append_left _ (h2 x q)
          · exact List.mem_append_right _ q
    · rintro ⟨h1, h2⟩
      by_cases hin : n ∈ r
      · right
        have hr : r ≠ [] := by intro z; rw [z] at hin; cases hin
        have e := last_form hr
        have hl := rise_last h1 n hin
        have hlm : r.getLastD "" ∈ u ++ [n] := h2 _ (by
          rw [List.getLastD_eq_getLast?, List.getLast?_eq_some_getLast hr]
          exact List.getLast_mem hr)
        have hln : r.getLastD "" = n := by
          rcases hl with q | q
          · exact q.symm
          · rcases List.mem_append.mp hlm with z | z
            · have := ltS_trans q (lt _ z)
              rw [ltS_irrefl] at this
              cases this
            · exact List.mem_singleton.mp z
        rw [hln] at e
        generalize r.dropLast = d at e
        subst e
        rw [List.pairwise_append] at h1
        refine ⟨d, (ih d).mpr ⟨h1.1, fun x hx => ?_⟩, rfl⟩
        rcases List.mem_append.mp (h2 x (List.mem_append_left _ hx)) with z | z
        · exact z
        · have := h1.2.2 x hx n (List.mem_singleton.mpr rfl)
          rw [List.mem_singleton.mp z, ltS_irrefl] at this
          cases this
      · left
        refine (ih r).mpr ⟨h1, fun x hx => ?_⟩
        rcases List.mem_append.mp (h2 x hx) with z | z
        · exact z
        · rw [List.mem_singleton.mp z] at hx
          exact absurd hx hin
/-! ### rows of texts in their order -/
def lexS : List Str → List Str → Bool
  | [], [] => false
  | [], _ :: _ => true
  | _ :: _, [] => false
  | a :: l, b :: m => if a = b then lexS l m else ltS a b
theorem lexS_irrefl : ∀ l : List Str, lexS l l = false
  | [] => rfl
  | a :: l => by
    show (if a = a then lexS l l else _) = _
    rw [if_pos rfl]
    exact lexS_irrefl l
theorem lexS_trans : ∀ {a b c : List Str}, lexS a b = true → lexS b c = true → lexS a c = true
  | [], _ :: _, _ :: _, _, _ => rfl
  | [], [], _, h, _ => by cases h
  | _ :: _, [], _, h, _ => by cases h
  | _ :: _, _ :: _, [], _, h => by cases h
  | [], _ :: _, [], _, h => by cases h
  | x :: a, y :: b, z :: c, h1, h2 => by
    have h1 : (if x = y then lexS a b else ltS x y) = true := h1
    have h2 : (if y = z then lexS b c else ltS y z) = true := h2
    show (if x = z then lexS a c else ltS x z) = true
    by_cases e1 : x = y
    · subst e1
      rw [if_pos rfl] at h1
      by_cases e2 : x = z
      · rw [if_pos e2] at h2 ⊢
        exact lexS_trans h1 h2
      · rw [if_neg e2] at h2 ⊢
        exact h2
    · rw [if_neg e1] at h1
      by_cases e2 : y = z
      · subst e2
        rw [if_neg e1]
        exact h1
      · rw [if_neg e2] at h2
        have h3 := ltS_trans h1 h2
        by_cases e3 : x = z
        · rw [e3, ltS_irrefl] at h3; cases h3
        · rw [if_neg e3]; exact h3
theorem lexS_total : ∀ {a b : List Str}, lexS a b = false → lexS b a = false → a = b
  | [], [], _, _ => rfl
  | [], _ :: _, h, _ => by cases h
  | _ :: _, [], _, h => by cases h
  | x :: a, y :: b, h1, h2 => by
    have h1 : (if x = y then lexS a b else ltS x y) = false := h1
    have h2 : (if y = x then lexS b a else ltS y x) = false := h2
    by_cases e : x = y
    · subst e
      rw [if_pos rfl] at h1 h2
      rw [lexS_total h1 h2]
    · rw [if_neg e] at h1
      rw [if_neg fun z => e z.symm] at h2
      exact absurd (ltS_total h1 h2) e
/-- a longer list ahead, in rows of the same beginning -/
theorem lexS_app : ∀ {a b : List Str} {x y : Str}, a.length = b.length → lexS a b = true → lexS (a ++ [x]) (b ++ [y]) = true
  | [], [], _, _, _, h => by cases h
  | p :: a, q :: b, x, y, hl, h => by
    have h : (if p = q then lexS a b else ltS p q) = true := h
    show (if p = q then lexS (a ++ [x]) (b ++ [y]) else ltS p q) = true
    by_cases e : p = q
    · rw [if_pos e] at h ⊢
      exact lexS_app (by simpa using hl) h
    · rw [if_neg e] at h ⊢
      exact h
  | [], _ :: _, _, _, hl, _ => by simp at hl
  | _ :: _, [], _, _, hl, _ => by simp at hl
theorem lexS_last : ∀ {a : List Str} {x y : Str}, ltS x y = true → lexS (a ++ [x]) (a ++ [y]) = true
  | [], x, y, h => by
    show (if x = y then lexS [] [] else ltS x y) = true
    rw [if_neg]
    · exact h
    · intro e; rw [e, ltS_irrefl] at h; cases h
  | p :: a, x, y, h => by
    show (if p = p then lexS (a ++ [x]) (a ++ [y]) else _) = true
    rw [if_pos rfl]
    exact lexS_last h
/-- the rows of a size stand in this order -/
theorem rowsN_lex {names : List Str} (hn : names.Pairwise fun a b => ltS a b = true) {n : Nat} {rows : List (List Str)} (hl : ∀ r ∈ rows, r.length = n) (h : rows.Pairwise fun a b => lexS a b = true) : (rowsN names rows).Pairwise fun a b => lexS a b = true := by
  unfold rowsN
  rw [List.pairwise_flatMap]
  refine ⟨fun r hr => ?_, ?_⟩
  · unfold growN
    rw [List.pairwise_map]
    exact (hn.filter _).imp fun {a b} hab => lexS_last hab
  · refine h.imp_of_mem fun {a b} ha hb hab => ?_
    intro x hx y hy
    unfold growN at hx hy
    obtain ⟨p, _, rfl⟩ := List.mem_map.mp hx
    obtain ⟨q, _, rfl⟩ := List.mem_map.mp hy
    exact lexS_app (by rw [hl a ha, hl b hb]) hab
theorem find_first {α : Type} {R : α → α → Prop} {p : α → Bool} : ∀ {l : List α} {x : α}, l.Pairwise R → l.find? p = some x → ∀ y ∈ l, p y = true → y = x ∨ R x y
  | a :: l, x, h, hf, y, hy, hp => by
    rw [List.pairwise_cons] at h
    rw [List.find?_cons] at hf
    cases ha : p a with
    | true =>
      rw [ha] at hf
      have hf : some a = some x := hf
      cases hf
      rcases List.mem_cons.mp hy with e | e
      · exact .inl e
      · exact .inr (h.1 y e)
    | false =>
      rw [ha] at hf
      rcases List.mem_cons.mp hy with e | e
      · rw [e, ha] at hp; cases hp
      · exact find_first h.2 hf y e hp
  | [], _, _, hf, _, _, _ => by cases hf
theorem leastLp_first {fl : Flow} {st z : Str} {names : List Str} (hn : names.Pairwise fun a b => ltS a b = true) : ∀ {n i : Nat} {rows : List (List Str)} {r : List Str}, RowsAt names i rows → rows.Pairwise (fun a b => lexS a b = true) → leastLp fl st z names n rows = some r → ∀ r', Rise names r' → r'.length = r.length → (wayN fl st z (some r')).isSome = true → r' = r ∨ lexS r r' = true
  | 0, _, _, _, _, _, h => by cases h
  | n + 1, i, rows, r, hr, hp, h => by
    have hd : leastLp fl st z names (n + 1) rows = match rows.find? fun r => (wayN fl st z (some r)).isSome with
      | some r => some r
      | none => leastLp fl st z names n (rowsN names rows) := rfl
    rw [hd] at h
    cases hf : rows.find? fun r => (wayN fl st z (some r)).isSome with
    | some r0 =>
      rw [hf] at h
      have h : some r0 = some r := h
      cases h
      intro r' h1 h2 h3
      have hi := ((hr _).mp (List.mem_of_find?_eq_some hf)).2
      exact find_first hp hf r' ((hr r').mpr ⟨h1, by omega⟩) h3
    | none =>
      rw [hf] at h
      exact leastLp_first hn (rowsAtS hr) (rowsN_lex hn (fun r h => ((hr r).mp h).2) hp) h
/-! ### the least of sizes and rows -/
def ltR (a b : List Str) : Bool := if a.length = b.length then lexS a b else decide (a.length < b.length)
theorem ltR_irrefl (a : List Str) : ltR a a = false := by
  unfold ltR
  rw [if_pos rfl, lexS_irrefl]
theorem ltR_trans {a b c : List Str} (h1 : ltR a b = true) (h2 : ltR b c = true) : ltR a c = true := by
  unfold ltR at *
  by_cases e1 : a.length = b.length
  · rw [if_pos e1] at h1
    by_cases e2 : b.length = c.length
    · rw [if_pos e2] at h2
      rw [if_pos (e1.trans e2)]
      exact lexS_trans h1 h2
    · rw [if_neg e2] at h2
      have := of_decide_eq_true h2
      rw [if_neg (by omega)]
      exact decide_eq_true (by omega)
  · rw [if_neg e1] at h1
    have h1 := of_decide_eq_true h1
    by_cases e2 : b.length = c.length
    · rw [if_neg (by omega)]
      exact decide_eq_true (by omega)
    · rw [if_neg e2] at h2
      have := of_decide_eq_true h2
      rw [if_neg (by omega)]
      exact decide_eq_true (by omega)
def minR (x : List Str) (xs : List (List Str)) : List Str := xs.foldl (fun a y => if ltR y a then y else a) x
theorem minR_spec : ∀ (xs : List (List Str)) (x : List Str), minR x xs ∈ x :: xs ∧ ∀ y ∈ x :: xs, ltR y (minR x xs) = false := by
  have key : ∀ (xs : List (List Str)) (x : List Str), (minR x xs = x ∨ minR x xs ∈ xs) ∧ (∀ y, ltR y x = false → ltR y (minR x xs) = false) ∧ ∀ y ∈ xs, ltR y (minR x xs) = false := by
    intro xs
    induction xs with
    | nil => intro x; exact ⟨.inl rfl, fun y h => h, by simp⟩
    | cons a xs ih =>
      intro x
      have e : minR x (a :: xs) = minR (if ltR a x then a else x) xs := rfl
      rw [e]
      cases h : ltR a x with
      | true =>
        rw [if_pos rfl]
        obtain ⟨h1, h2, h3⟩ := ih a
        have up : ∀ y, ltR y x = false → ltR y a = false := fun y hy => by
          cases q : ltR y a with
          | false => rfl
          | true => rw [ltR_trans q h] at hy; cases hy
        refine ⟨.inr ?_, fun y hy => h2 y (up y hy), fun y hy => ?_⟩
        · rcases h1 with q | q
          · rw [q]; exact List.mem_cons_self ..
          · exact List.mem_cons_of_mem _ q
        · rcases List.mem_cons.mp hy with q | q
          · rw [q]; exact h2 a (ltR_irrefl a)
          · exact h3 y q
      | false =>
        rw [if_neg (by decide)]
        obtain ⟨h1, h2, h3⟩ := ih x
        refine ⟨?_, h2, fun y hy => ?_⟩
        · rcases h1 with q | q
          · exact .inl q
          · exact .inr (List.mem_cons_of_mem _ q)
        · rcases List.mem_cons.mp hy with q | q
          · rw [q]; exact h2 a h
          · exact h3 y q
  intro xs x
  obtain ⟨h1, h2, h3⟩ := key xs x
  refine ⟨?_, fun y hy => ?_⟩
  · rcases h1 with q | q
    · rw [q]; exact List.mem_cons_self ..
    · exact List.mem_cons_of_mem _ q
  · rcases List.mem_cons.mp hy with q | q
    · rw [q]; exact h2 x (ltR_irrefl x)
    · exact h3 y q
def hGood (fl : Flow) (st z : Str) : List (List Str) := (hSets (rolesN fl)).filter fun r => (wayN fl st z (some r)).isSome
def hLeast (fl : Flow) (st z : Str) : Option (List Str) := match hGood fl st z with
  | [] => none
  | x :: xs => some (minR x xs)
theorem good_iff {fl : Flow} {st z : Str} {r : List Str} : r ∈ hGood fl st z ↔ Rise (rolesN fl) r ∧ (wayN fl st z (some r)).isSome = true := by
  unfold hGood
  rw [List.mem_filter, hSets_iff _ _ rfl rolesN_rise]
theorem hLeast_eq {fl : Flow} {st z : Str} : hLeast fl st z = leastN fl st z := by
  unfold hLeast
  cases hl : leastN fl st z with
  | none =>
    cases hg : hGood fl st z with
    | nil => rfl
    | cons x xs =>
      have hx : x ∈ hGood fl st z := by rw [hg]; exact List.mem_cons_self ..
      obtain ⟨h1, h2⟩ := good_iff.mp hx
      have hlen : x.length ≤ (rolesN fl).length := (rise_nodup h1.1).length_le_of_subset h1.2
      have := leastLp_none rowsAt0 hl x h1 (Nat.zero_le _) (by omega)
      rw [this] at h2
      cases h2
  | some r =>
    obtain ⟨h1, h2, h3⟩ := leastLp_some rowsAt0 hl
    have hr : r ∈ hGood fl st z := good_iff.mpr ⟨h2, h1⟩
    cases hg : hGood fl st z with
    | nil => rw [hg] at hr; cases hr
    | cons x xs =>
      obtain ⟨m1, m2⟩ := minR_spec xs x
      have hm : minR x xs ∈ hGood fl st z := by rw [hg]; exact m1
      obtain ⟨g1, g2⟩ := good_iff.mp hm
      have h4 := m2 r (by rw [← hg]; exact hr)
      show some (minR x xs) = some r
      congr 1
      unfold ltR at h4
      by_cases e : r.length = (minR x xs).length
      · rw [if_pos e] at h4
        rcases leastLp_first rolesN_rise rowsAt0 (List.pairwise_singleton _ _) hl _ g1 e.symm g2 with q | q
        · exact q
        · rw [q] at h4; cases h4
      · rw [if_neg e] at h4
        have h4 := of_decide_eq_false h4
        have := h3 _ g1 (by omega) (Nat.zero_le _)
        rw [this] at g2
        cases g2
end Y.N02

namespace Y.N02
open PySem PySem.W PySem.Spec PyProof.Rows L2
/-! ### the same as itself -/
def law_same_c1 : E := (.comp [2, 3] (.tp (.cons (.nm 2) (.cons (.nm 3) .nil))) (.zip (.var 0) (.var 1)) (.cst (.bool true)) (.call 0 (.cons (.var 2) (.cons (.var 3) .nil)) .nil))
def law_same_b : Ss :=
      (.cons (.iff (.cmp .Is (.var 1) (.cst .none)) (.cons (.ret (.cmp .Is (.var 0) (.cst .none)))
      .nil) .nil)
      (.cons (.iff (.isi .bool (.var 1)) (.cons (.ret (.bop false (.isi .bool (.var 0)) (.cmp .Eq (.var 0) (.var 1))))
      .nil) .nil)
      (.cons (.iff (.isi .tuple (.var 1)) (.cons (.iff (.bop true (.nt (.isi .tuple (.var 0))) (.cmp .NotEq (.bi .len (.var 0)) (.bi .len (.var 1)))) (.cons (.ret (.cst (.bool false)))
      .nil) .nil)
      (.cons (.ret (.bi .all law_same_c1))
      .nil)) .nil)
      (.cons (.iff (.isi .str (.var 1)) (.cons (.ret (.bop false (.isi .str (.var 0)) (.cmp .Eq (.var 0) (.var 1))))
      .nil) .nil)
      (.cons (.ret (.bop false (.isi .int (.var 0)) (.bop false (.nt (.isi .bool (.var 0))) (.cmp .Eq (.var 0) (.var 1)))))
      .nil)))))
mutual
/-- no list, no dict within, of no great depth -/
def okS : Nat → D → Bool
  | 0, _ => false
  | _ + 1, .list _ => false
  | _ + 1, .dict _ => false
  | n + 1, .tuple l => okSs n l
  | _ + 1, _ => true
def okSs : Nat → List D → Bool
  | _, [] => true
  | n, x :: l => okS n x && okSs n l
end
def SameT (n : Nat) (f : List D → R D) : Prop := ∀ d, okS n d = true → f [d, d] = .ok (.bool true)
theorem pairUp_self : ∀ l : List D, pairUp l l = l.map fun x => .tuple [x, x]
  | [] => rfl
  | x :: l => by
    show PyData.tuple [x, x] :: pairUp l l = _
    rw [pairUp_self l]
    rfl
theorem okSs_mem : ∀ {n : Nat} {l : List D}, okSs n l = true → ∀ x ∈ l, okS n x = true
  | n, y :: l, h, x, hx => by
    rw [okSs, Bool.and_eq_true] at h
    rcases List.mem_cons.mp hx with e | e
    · rw [e]; exact h.1
    · exact okSs_mem h.2 x e
theorem neD_int {a b : Int} : cmpD .NotEq (.int a) (.int b) = some (!decide (a = b)) := by
  have h : cmpD .NotEq (.int a) (.int b) = (cmpD .Eq (.int a) (.int b)).map (fun z => !z) := rfl
  rw [h, eqD_int]
  rfl
theorem isN_str {a : Str} : cmpD .Is (.str a) .none = some false := rfl
theorem same_step {g : G} {n : Nat} (ih : SameT n (g.fn 0)) : SameT (n + 1) (runD g 2 2 law_same_b) := fun d hd => by
  refine runD_rt rfl rfl (k := 0) ?_
  show exes g law_same_b [some (.d d), some (.d d), none, none] 0 = _
  cases d with
  | none =>
    have e : cmpD .Is .none .none = some true := rfl
    simp only [exes_cons, exes_nil, exe, ev, evs, evi, go_ok, go_nx, bind_ok, pure_ok, of_some, at_ok, List.getElem?_cons_succ, List.getElem?_cons_zero, List.set_cons_succ, List.set_cons_zero, putS, setSV, kdOf, anyTr, lawIn, isTr, trI, List.length_cons, List.length_nil, wipeOk, List.all_cons, List.all_nil, wipeR, Option.bind_some, isOmit, endOf, intOf, getL, getT, getK, parOk, parS, ne_eq, not_false_eq_true, reduceCtorEq, decide_false, decide_true, Bool.or_false, Bool.false_or, Bool.or_true, Bool.true_or, Bool.and_true, Bool.true_and, Bool.not_true, Bool.not_false, Bool.false_eq_true, if_true, if_false, ite_true, ite_false, if_pos, Nat.reduceLT, Nat.reduceAdd, ↓reduceIte, tst, truD, Bool.and_self, Bool.and_false, Bool.false_and, Nat.lt_add_one, Nat.zero_lt_succ, Nat.lt_irrefl, List.append_nil, List.cons_append, List.nil_append, law_same_b, e]
    rfl
  | bool b =>
    have e : cmpD .Is (.bool b) .none = some false := rfl
    have e2 : isD .bool (.bool b) = true := rfl
    have e3 : cmpD .Eq (.bool b) (.bool b) = some true := by rw [Y.eqD_bool]; simp
    simp only [exes_cons, exes_nil, exe, ev, evs, evi, go_ok, go_nx, bind_ok, pure_ok, of_some, at_ok, List.getElem?_cons_succ, List.getElem?_cons_zero, List.set_cons_succ, List.set_cons_zero, putS, setSV, kdOf, anyTr, lawIn, isTr, trI, List.length_cons, List.length_nil, wipeOk, List.all_cons, List.all_nil, wipeR, Option.bind_some, isOmit, endOf, intOf, getL, getT, getK, parOk, parS, ne_eq, not_false_eq_true, reduceCtorEq, decide_false, decide_true, Bool.or_false, Bool.false_or, Bool.or_true, Bool.true_or, Bool.and_true, Bool.true_and, Bool.not_true, Bool.not_false, Bool.false_eq_true, if_true, if_false, ite_true, ite_false, if_pos, Nat.reduceLT, Nat.reduceAdd, ↓reduceIte, tst, truD, Bool.and_self, Bool.and_false, Bool.false_and, Nat.lt_add_one, Nat.zero_lt_succ, Nat.lt_irrefl, List.append_nil, List.cons_append, List.nil_append, law_same_b, e, e2, e3]
    rfl
  | int i =>
    have e : cmpD .Is (.int i) .none = some false := rfl
    have e2 : isD .bool (.int i) = false := rfl
    have e3 : isD .tuple (.int i) = false := rfl
    have e4 : isD .str (.int i) = false := rfl
    have e5 : isD .int (.int i) = true := rfl
    have e6 : cmpD .Eq (.int i) (.int i) = some true := by rw [eqD_int]; simp
    simp only [exes_cons, exes_nil, exe, ev, evs, evi, go_ok, go_nx, bind_ok, pure_ok, of_some, at_ok, List.getElem?_cons_succ, List.getElem?_cons_zero, List.set_cons_succ, List.set_cons_zero, putS, setSV, kdOf, anyTr, lawIn, isTr, trI, List.length_cons, List.length_nil, wipeOk, List.all_cons, List.all_nil, wipeR, Option.bind_some, isOmit, endOf, intOf, getL, getT, getK, parOk, parS, ne_eq, not_false_eq_true, reduceCtorEq, decide_false, decide_true, Bool.or_false, Bool.false_or, Bool.or_true, Bool.true_or, Bool.and_true, Bool.true_and, Bool.not_true, Bool.not_false, Bool.false_eq_true, if_true, if_false, ite_true, ite_false, if_pos, Nat.reduceLT, Nat.reduceAdd, ↓reduceIte, tst, truD, Bool.and_self, Bool.and_false, Bool.false_and, Nat.lt_add_one, Nat.zero_lt_succ, Nat.lt_irrefl, List.append_nil, List.cons_append, List.nil_append, law_same_b, e, e2, e3, e4, e5, e6]
    rfl
  | str x =>
    have e : cmpD .Is (.str x) .none = some false := rfl
    have e2 : isD .bool (.str x) = false := rfl
    have e3 : isD .tuple (.str x) = false := rfl
    have e4 : isD .str (.str x) = true := rfl
    have e6 : cmpD .Eq (.str x) (.str x) = some true := by rw [eqD_str]; simp
    simp only [exes_cons, exes_nil, exe, ev, evs, evi, go_ok, go_nx, bind_ok, pure_ok, of_some, at_ok, List.getElem?_cons_succ, List.getElem?_cons_zero, List.set_cons_succ, List.set_cons_zero, putS, setSV, kdOf, anyTr, lawIn, isTr, trI, List.length_cons, List.length_nil, wipeOk, List.all_cons, List.all_nil, wipeR, Option.bind_some, isOmit, endOf, intOf, getL, getT, getK, parOk, parS, ne_eq, not_false_eq_true, reduceCtorEq, decide_false, decide_true, Bool.or_false, Bool.false_or, Bool.or_true, Bool.true_or, Bool.and_true, Bool.true_and, Bool.not_true, Bool.not_false, Bool.false_eq_true, if_true, if_false, ite_true, ite_false, if_pos, Nat.reduceLT, Nat.reduceAdd, ↓reduceIte, tst, truD, Bool.and_self, Bool.and_false, Bool.false_and, Nat.lt_add_one, Nat.zero_lt_succ, Nat.lt_irrefl, List.append_nil, List.cons_append, List.nil_append, law_same_b, e, e2, e3, e4, e6]
    rfl
  | tuple l =>
    have hl : okSs n l = true := hd
    have e : cmpD .Is (.tuple l) .none = some false := rfl
    have e2 : isD .bool (.tuple l) = false := rfl
    have e3 : isD .tuple (.tuple l) = true := rfl
    have e4 : biD .len (.tuple l) = some (.int l.length) := rfl
    have e5 : cmpD .NotEq (.int (l.length : Int)) (.int (l.length : Int)) = some false := by rw [neD_int]; simp
    have ec : ev g law_same_c1 [some (.d (.tuple l)), some (.d (.tuple l)), none, none] 0 = .ok (.list (l.map fun _ => .bool true), 0) := by
      refine ev_compA (g := g) (k := 0) l (fun x => .tuple [x, x]) (fun x => [some (.d (.tuple l)), some (.d (.tuple l)), some (.d x), some (.d x)]) (fun _ => .bool true) rfl ?_ (fun _ _ => rfl) (fun x hx => ⟨by simp [kdOf], ?_⟩)
      · have z : zipD (.tuple l) (.tuple l) = some (l.map fun x => .tuple [x, x]) := by
          show some (pairUp l l) = _
          rw [pairUp_self]
        simp only [exes_cons, exes_nil, exe, ev, evs, evi, go_ok, go_nx, bind_ok, pure_ok, of_some, at_ok, List.getElem?_cons_succ, List.getElem?_cons_zero, List.set_cons_succ, List.set_cons_zero, putS, setSV, kdOf, anyTr, lawIn, isTr, trI, List.length_cons, List.length_nil, wipeOk, List.all_cons, List.all_nil, wipeR, Option.bind_some, isOmit, endOf, intOf, getL, getT, getK, parOk, parS, ne_eq, not_false_eq_true, reduceCtorEq, decide_false, decide_true, Bool.or_false, Bool.false_or, Bool.or_true, Bool.true_or, Bool.and_true, Bool.true_and, Bool.not_true, Bool.not_false, Bool.false_eq_true, if_true, if_false, ite_true, ite_false, if_pos, Nat.reduceLT, Nat.reduceAdd, ↓reduceIte, tst, truD, Bool.and_self, Bool.and_false, Bool.false_and, Nat.lt_add_one, Nat.zero_lt_succ, Nat.lt_irrefl, List.append_nil, List.cons_append, List.nil_append, z]
      · have := ih x (okSs_mem hl x hx)
        simp only [exes_cons, exes_nil, exe, ev, evs, evi, go_ok, go_nx, bind_ok, pure_ok, of_some, at_ok, List.getElem?_cons_succ, List.getElem?_cons_zero, List.set_cons_succ, List.set_cons_zero, putS, setSV, kdOf, anyTr, lawIn, isTr, trI, List.length_cons, List.length_nil, wipeOk, List.all_cons, List.all_nil, wipeR, Option.bind_some, isOmit, endOf, intOf, getL, getT, getK, parOk, parS, ne_eq, not_false_eq_true, reduceCtorEq, decide_false, decide_true, Bool.or_false, Bool.false_or, Bool.or_true, Bool.true_or, Bool.and_true, Bool.true_and, Bool.not_true, Bool.not_false, Bool.false_eq_true, if_true, if_false, ite_true, ite_false, if_pos, Nat.reduceLT, Nat.reduceAdd, ↓reduceIte, tst, truD, Bool.and_self, Bool.and_false, Bool.false_and, Nat.lt_add_one, Nat.zero_lt_succ, Nat.lt_irrefl, List.append_nil, List.cons_append, List.nil_append, this]
    have ea : biD .all (.list (l.map fun _ => .bool true)) = some (.bool true) := by
      show (boolsOf _).map _ = _
      rw [boolsOf_map (f := fun _ => true)]
      simp
    simp only [exes_cons, exes_nil, exe, ev, evs, evi, go_ok, go_nx, bind_ok, pure_ok, of_some, at_ok, List.getElem?_cons_succ, List.getElem?_cons_zero, List.set_cons_succ, List.set_cons_zero, putS, setSV, kdOf, anyTr, lawIn, isTr, trI, List.length_cons, List.length_nil, wipeOk, List.all_cons, List.all_nil, wipeR, Option.bind_some, isOmit, endOf, intOf, getL, getT, getK, parOk, parS, ne_eq, not_false_eq_true, reduceCtorEq, decide_false, decide_true, Bool.or_false, Bool.false_or, Bool.or_true, Bool.true_or, Bool.and_true, Bool.true_and, Bool.not_true, Bool.not_false, Bool.false_eq_true, if_true, if_false, ite_true, ite_false, if_pos, Nat.reduceLT, Nat.reduceAdd, ↓reduceIte, tst, truD, Bool.and_self, Bool.and_false, Bool.false_and, Nat.lt_add_one, Nat.zero_lt_succ, Nat.lt_irrefl, List.append_nil, List.cons_append, List.nil_append, law_same_b, e, e2, e3, e4, e5, ec, ea]
    rfl
  | list l => cases hd
  | dict l => cases hd
theorem okS_strs : ∀ {l : List Str} {n : Nat}, okSs (n + 1) (strsD l) = true
  | [], _ => rfl
  | a :: l, n => by
    show (okS (n + 1) (.str a) && okSs (n + 1) (strsD l)) = true
    rw [okS_strs]
    rfl
theorem okS_tup {l : List Str} {n : Nat} : okS (n + 2) (.tuple (strsD l)) = true := okS_strs
theorem okS_pO {x : Option (List Str)} {n : Nat} : okS (n + 2) (pO x) = true := by
  cases x with
  | none => rfl
  | some l => exact okS_strs
theorem okS_strO {x : Option Str} {n : Nat} : okS (n + 1) (strO x) = true := by cases x <;> rfl
/-! ### moves by hand -/
def law_moves_c1 : E := (.comp [5] (.nm 5) (.tup (.var 2)) (.cmp .In (.var 5) (.bi .list (.ix (.var 4) (.cst (.int 3))))) (.var 5))
def law_moves_l1 : Ss := (.cons (.iff (.bop false (.cmp .Eq (.ix (.var 4) (.cst (.int 1))) (.var 1)) (.bop true (.cmp .Is (.var 2) (.cst .none)) law_moves_c1)) (.cons (.app 3 (.var 4))
      .nil) .nil)
      .nil)
def law_moves_b : Ss :=
      (.cons (.set 3 true (.lst .nil))
      (.cons (.forr (.nm 4) (.tup (.ix (.var 0) (.cst (.int 1)))) law_moves_l1)
      (.cons (.ret (.var 3))
      .nil)))
theorem k_moves_c1 {ρ : Rho} : kdOf ρ law_moves_c1 = .fr := rfl
def HMvT (f : List D → R D) : Prop := ∀ fl st rl, fl.moves.length ≤ 18 → f [flD fl, .str st, rolD rl] = .ok (.list ((hMoves st rl fl.moves).map mvD))
theorem filter_any {α : Type} {p : α → Bool} : ∀ {l : List α}, (l.filter p).isEmpty = !l.any p
  | [] => rfl
  | a :: l => by
    cases h : p a with
    | true => rw [List.filter_cons_of_pos h, List.any_cons, h]; rfl
    | false => rw [List.filter_cons_of_neg (by simp [h]), List.any_cons, h, filter_any]; rfl
theorem strsD_empty {l : List Str} : (strsD l).isEmpty = l.isEmpty := by cases l <;> rfl
theorem moves_loopH {g : G} {x0 : Option SV} {st : Str} {rl : Option (List Str)} {k : Nat} : ∀ (l acc : List Mv) (x4 : Option SV), acc.length + l.length ≤ 1000 →
    ∃ x4', forL (bindT (.nm 4)) (exes g law_moves_l1) (l.map mvD) [x0, some (.d (.str st)), some (.d (rolD rl)), some (.own (acc.map mvD)), x4, none] k = .nx [x0, some (.d (.str st)), some (.d (rolD rl)), some (.own ((acc ++ hMoves st rl l).map mvD)), x4', none] k
  | [], acc, x4, _ => ⟨x4, by simp [hMoves, forL]⟩
  | m :: l, acc, x4, h => by
    rw [List.length_cons] at h
    have hz : lim ((acc.map mvD).length + 1) = true := by
      unfold lim
      rw [List.length_map]
      exact decide_eq_true (by omega)
    have hap : acc.map mvD ++ [mvD m] = (acc ++ [m]).map mvD := by rw [List.map_append]; rfl
    have b2 : ∀ l, biD .list (.tuple l) = some (.list l) := fun _ => rfl
    have ec : ∀ part, ev g law_moves_c1 [x0, some (.d (.str st)), some (.d (rolD (some part))), some (.own (acc.map mvD)), some (.d (mvD m)), none] k = .ok (.list (strsD (part.filter fun r => decide (r ∈ m.roles))), k) := fun part => by
      refine ev_comp (g := g) (k := k) part .str (fun r => [x0, some (.d (.str st)), some (.d (rolD (some part))), some (.own (acc.map mvD)), some (.d (mvD m)), some (.d (.str r))]) (fun r => decide (r ∈ m.roles)) .str rfl rfl (fun _ _ => rfl) (fun r _ => tstB ?_) (fun r _ _ => ⟨by simp [kdOf], rfl⟩)
      simp only [exes_cons, exes_nil, exe, ev, evs, evi, go_ok, go_nx, bind_ok, pure_ok, of_some, at_ok, List.getElem?_cons_succ, List.getElem?_cons_zero, List.set_cons_succ, List.set_cons_zero, putS, setSV, kdOf, anyTr, lawIn, isTr, trI, List.length_cons, List.length_nil, wipeOk, List.all_cons, List.all_nil, wipeR, Option.bind_some, isOmit, endOf, intOf, getL, getT, getK, parOk, parS, ne_eq, not_false_eq_true, reduceCtorEq, decide_false, decide_true, Bool.or_false, Bool.false_or, Bool.or_true, Bool.true_or, Bool.and_true, Bool.true_and, Bool.not_true, Bool.not_false, Bool.false_eq_true, if_true, if_false, ite_true, ite_false, if_pos, Nat.reduceLT, Nat.reduceAdd, ↓reduceIte, tst, truD, Bool.and_self, Bool.and_false, Bool.false_and, Nat.lt_add_one, Nat.zero_lt_succ, Nat.lt_irrefl, List.append_nil, List.cons_append, List.nil_append, mv_at.2.2.2, b2, in_lst]
    have key : ∀ {b : Bool}, mayDo m rl = b → ∃ v, ev g (.bop true (.cmp .Is (.var 2) (.cst .none)) law_moves_c1) [x0, some (.d (.str st)), some (.d (rolD rl)), some (.own (acc.map mvD)), some (.d (mvD m)), none] k = .ok (v, k) ∧ truD v = some b := fun {b} hb => by
      cases rl with
      | none =>
        have e : cmpD .Is .none .none = some true := rfl
        refine ⟨.bool true, by simp only [exes_cons, exes_nil, exe, ev, evs, evi, go_ok, go_nx, bind_ok, pure_ok, of_some, at_ok, List.getElem?_cons_succ, List.getElem?_cons_zero, List.set_cons_succ, List.set_cons_zero, putS, setSV, kdOf, anyTr, lawIn, isTr, trI, List.length_cons, List.length_nil, wipeOk, List.all_cons, List.all_nil, wipeR, Option.bind_some, isOmit, endOf, intOf, getL, getT, getK, parOk, parS, ne_eq, not_false_eq_true, reduceCtorEq, decide_false, decide_true, Bool.or_false, Bool.false_or, Bool.or_true, Bool.true_or, Bool.and_true, Bool.true_and, Bool.not_true, Bool.not_false, Bool.false_eq_true, if_true, if_false, ite_true, ite_false, if_pos, Nat.reduceLT, Nat.reduceAdd, ↓reduceIte, tst, truD, Bool.and_self, Bool.and_false, Bool.false_and, Nat.lt_add_one, Nat.zero_lt_succ, Nat.lt_irrefl, List.append_nil, List.cons_append, List.nil_append, rolD, e], ?_⟩
        rw [← hb]; rfl
      | some part =>
        have e : cmpD .Is (.tuple (strsD part)) .none = some false := rfl
        have ec := ec part
        refine ⟨.list (strsD (part.filter fun r => decide (r ∈ m.roles))), ?_, ?_⟩
        · unfold ev
          rw [show ev g (.cmp .Is (.var 2) (.cst .none)) [x0, some (.d (.str st)), some (.d (rolD (some part))), some (.own (acc.map mvD)), some (.d (mvD m)), none] k = .ok (.bool false, k) from rfl, bind_ok]
          exact ec
        · show some (!(strsD _).isEmpty) = _
          rw [strsD_empty, filter_any, Bool.not_not, ← hb]
          rfl
    rw [List.map_cons]
    have ee : ev g (.cmp .Eq (.ix (.var 4) (.cst (.int 1))) (.var 1)) [x0, some (.d (.str st)), some (.d (rolD rl)), some (.own (acc.map mvD)), some (.d (mvD m)), none] k = .ok (.bool (decide (m.beg = st)), k) := by
      simp only [exes_cons, exes_nil, exe, ev, evs, evi, go_ok, go_nx, bind_ok, pure_ok, of_some, at_ok, List.getElem?_cons_succ, List.getElem?_cons_zero, List.set_cons_succ, List.set_cons_zero, putS, setSV, kdOf, anyTr, lawIn, isTr, trI, List.length_cons, List.length_nil, wipeOk, List.all_cons, List.all_nil, wipeR, Option.bind_some, isOmit, endOf, intOf, getL, getT, getK, parOk, parS, ne_eq, not_false_eq_true, reduceCtorEq, decide_false, decide_true, Bool.or_false, Bool.false_or, Bool.or_true, Bool.true_or, Bool.and_true, Bool.true_and, Bool.not_true, Bool.not_false, Bool.false_eq_true, if_true, if_false, ite_true, ite_false, if_pos, Nat.reduceLT, Nat.reduceAdd, ↓reduceIte, tst, truD, Bool.and_self, Bool.and_false, Bool.false_and, Nat.lt_add_one, Nat.zero_lt_succ, Nat.lt_irrefl, List.append_nil, List.cons_append, List.nil_append, mv_at.2.1, eqD_str]
    have step : ∀ {b : Bool}, (decide (m.beg = st) && mayDo m rl) = b → exes g law_moves_l1 [x0, some (.d (.str st)), some (.d (rolD rl)), some (.own (acc.map mvD)), some (.d (mvD m)), none] k = .nx [x0, some (.d (.str st)), some (.d (rolD rl)), some (.own ((if b then acc ++ [m] else acc).map mvD)), some (.d (mvD m)), none] k := fun {b} hb => by
      have app : exes g (.cons (.app 3 (.var 4)) .nil) [x0, some (.d (.str st)), some (.d (rolD rl)), some (.own (acc.map mvD)), some (.d (mvD m)), none] k = .nx [x0, some (.d (.str st)), some (.d (rolD rl)), some (.own ((acc ++ [m]).map mvD)), some (.d (mvD m)), none] k := by
        simp only [exes_cons, exes_nil, exe, ev, evs, evi, go_ok, go_nx, bind_ok, pure_ok, of_some, at_ok, List.getElem?_cons_succ, List.getElem?_cons_zero, List.set_cons_succ, List.set_cons_zero, putS, setSV, kdOf, anyTr, lawIn, isTr, trI, List.length_cons, List.length_nil, wipeOk, List.all_cons, List.all_nil, wipeR, Option.bind_some, isOmit, endOf, intOf, getL, getT, getK, parOk, parS, ne_eq, not_false_eq_true, reduceCtorEq, decide_false, decide_true, Bool.or_false, Bool.false_or, Bool.or_true, Bool.true_or, Bool.and_true, Bool.true_and, Bool.not_true, Bool.not_false, Bool.false_eq_true, if_true, if_false, ite_true, ite_false, if_pos, Nat.reduceLT, Nat.reduceAdd, ↓reduceIte, tst, truD, Bool.and_self, Bool.and_false, Bool.false_and, Nat.lt_add_one, Nat.zero_lt_succ, Nat.lt_irrefl, List.append_nil, List.cons_append, List.nil_append, hz, hap]
      have cond : ∃ v, ev g (.bop false (.cmp .Eq (.ix (.var 4) (.cst (.int 1))) (.var 1)) (.bop true (.cmp .Is (.var 2) (.cst .none)) law_moves_c1)) [x0, some (.d (.str st)), some (.d (rolD rl)), some (.own (acc.map mvD)), some (.d (mvD m)), none] k = .ok (v, k) ∧ truD v = some b := by
        by_cases e : m.beg = st
        · obtain ⟨v, h1, h2⟩ := key (b := mayDo m rl) rfl
          refine ⟨v, ?_, ?_⟩
          · unfold ev
            rw [ee, decide_eq_true e, bind_ok]
            exact h1
          · rw [h2, ← hb, decide_eq_true e, Bool.true_and]
        · refine ⟨.bool false, ?_, ?_⟩
          · unfold ev
            rw [ee, decide_eq_false e, bind_ok]
            rfl
          · rw [← hb, decide_eq_false e, Bool.false_and]
            rfl
      obtain ⟨v, h1, h2⟩ := cond
      unfold law_moves_l1
      rw [exes_cons]
      unfold exe
      rw [h1, go_ok]
      unfold tst
      rw [h2]
      cases b with
      | true =>
        show Out.go (exes g (.cons (.app 3 (.var 4)) .nil) _ k) _ = _
        rw [app]
        rfl
      | false => rfl
    cases hb : (decide (m.beg = st) && mayDo m rl) with
    | true =>
      obtain ⟨x4', ih⟩ := moves_loopH (g := g) (x0 := x0) (st := st) (rl := rl) (k := k) l (acc ++ [m]) (some (.d (mvD m))) (by simp; omega)
      refine ⟨x4', ?_⟩
      have e : hMoves st rl (m :: l) = m :: hMoves st rl l := List.filter_cons_of_pos hb
      rw [e, show acc ++ m :: hMoves st rl l = acc ++ [m] ++ hMoves st rl l from by simp]
      exact forL_nx (ρ1 := [x0, some (.d (.str st)), some (.d (rolD rl)), some (.own (acc.map mvD)), some (.d (mvD m)), none]) rfl (step hb) ih
    | false =>
      obtain ⟨x4', ih⟩ := moves_loopH (g := g) (x0 := x0) (st := st) (rl := rl) (k := k) l acc (some (.d (mvD m))) (by omega)
      refine ⟨x4', ?_⟩
      have e : hMoves st rl (m :: l) = hMoves st rl l := List.filter_cons_of_neg (by rw [hb]; simp)
      rw [e]
      exact forL_nx (ρ1 := [x0, some (.d (.str st)), some (.d (rolD rl)), some (.own (acc.map mvD)), some (.d (mvD m)), none]) rfl (step hb) ih
theorem hmv_run {g : G} : HMvT (runD g 3 3 law_moves_b) := fun fl st rl hm => by
  obtain ⟨x4', e⟩ := moves_loopH (g := g) (x0 := some (.d (flD fl))) (st := st) (rl := rl) (k := 0) fl.moves [] none (by simp; omega)
  rw [List.nil_append] at e
  refine runD_rt rfl rfl (k := 0) ?_
  show exes g law_moves_b [some (.d (flD fl)), some (.d (.str st)), some (.d (rolD rl)), none, none, none] 0 = _
  have e' : forL (bindT (.nm 4)) (exes g law_moves_l1) (fl.moves.map mvD) [some (.d (flD fl)), some (.d (.str st)), some (.d (rolD rl)), some (.own []), none, none] 0 = _ := e
  simp only [exes_cons, exes_nil, exe, ev, evs, evi, go_ok, go_nx, bind_ok, pure_ok, of_some, at_ok, List.getElem?_cons_succ, List.getElem?_cons_zero, List.set_cons_succ, List.set_cons_zero, putS, setSV, kdOf, anyTr, lawIn, isTr, trI, List.length_cons, List.length_nil, wipeOk, List.all_cons, List.all_nil, wipeR, Option.bind_some, isOmit, endOf, intOf, getL, getT, getK, parOk, parS, ne_eq, not_false_eq_true, reduceCtorEq, decide_false, decide_true, Bool.or_false, Bool.false_or, Bool.or_true, Bool.true_or, Bool.and_true, Bool.true_and, Bool.not_true, Bool.not_false, Bool.false_eq_true, if_true, if_false, ite_true, ite_false, if_pos, Nat.reduceLT, Nat.reduceAdd, ↓reduceIte, tst, truD, Bool.and_self, Bool.and_false, Bool.false_and, Nat.lt_add_one, Nat.zero_lt_succ, Nat.lt_irrefl, List.append_nil, List.cons_append, List.nil_append, law_moves_b, fl_at.2, e']
  rfl
end Y.N02

namespace Y.N02
open PySem PySem.W PySem.Spec PyProof.Rows L2
/-! ### ways by hand, run -/
def law_ways_c1 : E := (.comp [9] (.nm 9) (.lst (.call 0 (.cons (.var 0) (.cons (.var 7) (.cons (.var 2) .nil))) .nil)) (.cst (.bool true)) (.tup (.cons (.ix (.var 9) (.cst (.int 2))) (.cons (.bin .add (.var 8) (.tup (.cons (.ix (.var 9) (.cst (.int 0))) .nil))) .nil))))
def law_ways_l1 : Ss := (.cons (.set 6 false (.bin .add (.var 6) law_ways_c1))
      .nil)
def law_ways_l2 : Ss := (.cons (.iff (.cmp .NotIn (.var 7) (.var 3)) (.cons (.put 3 (.var 7) (.var 8))
      (.cons (.app 4 (.tup (.cons (.var 7) (.cons (.var 8) .nil))))
      .nil)) .nil)
      .nil)
def law_ways_l3 : Ss := (.cons (.set 6 false (.lst .nil))
      (.cons (.frz 4)
      (.cons (.forr (.tp (.cons (.nm 7) (.cons (.nm 8) .nil))) (.lst (.var 4)) law_ways_l1)
      (.cons (.set 4 true (.lst .nil))
      (.cons (.forr (.tp (.cons (.nm 7) (.cons (.nm 8) .nil))) (.lst (.var 6)) law_ways_l2)
      .nil)))))
def law_ways_b : Ss :=
      (.cons (.par [(3, true), (4, true)] (.cons (.dct (.cons (.var 1) (.cons (.tup .nil) .nil))) (.cons (.lst (.cons (.tup (.cons (.var 1) (.cons (.tup .nil) .nil))) .nil)) .nil)))
      (.cons (.forr (.nm 5) (.rng (.bi .len (.ix (.var 0) (.cst (.int 0))))) law_ways_l3)
      (.cons (.ret (.var 3))
      .nil)))
def rowD (r : Row) : D := .tuple [.str r.1, tupS r.2]
theorem lim_ok {n : Nat} (h : n ≤ 16777216) : lim n = true := decide_eq_true h
section
variable {g : G} (hm : HMvT (g.fn 0)) {fl : Flow} (ho : FlowOk fl) {rl : Option (List Str)} {k : Nat}
include hm ho
theorem ways_l1 {x1 x3 x4 x5 : Option SV} : ∀ (rows acc : List Row) (x7 x8 : Option SV), (∀ r ∈ rows, r.2.length ≤ 1000) → acc.length + 18 * rows.length ≤ 10000 →
    ∃ x7' x8', forL (bindT (.tp (.cons (.nm 7) (.cons (.nm 8) .nil)))) (exes g law_ways_l1) (rows.map rowD) [some (.d (flD fl)), x1, some (.d (rolD rl)), x3, x4, x5, some (.d (.list (acc.map rowD))), x7, x8, none] k = .nx [some (.d (flD fl)), x1, some (.d (rolD rl)), x3, x4, x5, some (.d (.list ((acc ++ longN fl rl rows).map rowD))), x7', x8', none] k
  | [], acc, x7, x8, _, _ => ⟨x7, x8, by simp [longN, forL]⟩
  | r :: rows, acc, x7, x8, h1, h2 => by
    rw [List.length_cons] at h2
    have hr := h1 r (List.mem_cons_self ..)
    have e0 := hm fl r.1 rl ho.mfew
    have hlen : (hMoves r.1 rl fl.moves).length ≤ 18 := Nat.le_trans (List.length_filter_le ..) ho.mfew
    have ec : ev g law_ways_c1 [some (.d (flD fl)), x1, some (.d (rolD rl)), x3, x4, x5, some (.d (.list (acc.map rowD))), some (.d (.str r.1)), some (.d (tupS r.2)), none] k = .ok (.list ((hMoves r.1 rl fl.moves).map fun m => rowD (m.goal, r.2 ++ [m.word])), k) := by
      refine ev_compA (g := g) (k := k) (hMoves r.1 rl fl.moves) mvD (fun m => [some (.d (flD fl)), x1, some (.d (rolD rl)), x3, x4, x5, some (.d (.list (acc.map rowD))), some (.d (.str r.1)), some (.d (tupS r.2)), some (.d (mvD m))]) (fun m => rowD (m.goal, r.2 ++ [m.word])) rfl (by simp only [exes_cons, exes_nil, exe, ev, evs, evi, go_ok, go_nx, bind_ok, pure_ok, of_some, at_ok, List.getElem?_cons_succ, List.getElem?_cons_zero, List.set_cons_succ, List.set_cons_zero, putS, setSV, kdOf, anyTr, lawIn, isTr, trI, List.length_cons, List.length_nil, wipeOk, List.all_cons, List.all_nil, wipeR, Option.bind_some, isOmit, endOf, intOf, getL, getT, getK, parOk, parS, ne_eq, not_false_eq_true, reduceCtorEq, decide_false, decide_true, Bool.or_false, Bool.false_or, Bool.or_true, Bool.true_or, Bool.and_true, Bool.true_and, Bool.not_true, Bool.not_false, Bool.false_eq_true, if_true, if_false, ite_true, ite_false, if_pos, Nat.reduceLT, Nat.reduceAdd, ↓reduceIte, tst, truD, Bool.and_self, Bool.and_false, Bool.false_and, Nat.lt_add_one, Nat.zero_lt_succ, Nat.lt_irrefl, List.append_nil, List.cons_append, List.nil_append, e0]) (fun _ _ => rfl) (fun m _ => ⟨by simp [kdOf], ?_⟩)
      have hb : binD .add (tupS r.2) (.tuple [.str m.word]) = some (tupS (r.2 ++ [m.word])) := by
        show (if lim ((strsD r.2).length + 1) = true then _ else _) = _
        rw [if_pos (lim_ok (by unfold strsD; rw [List.length_map]; omega))]
        unfold tupS strsD
        rw [List.map_append]
        rfl
      simp only [exes_cons, exes_nil, exe, ev, evs, evi, go_ok, go_nx, bind_ok, pure_ok, of_some, at_ok, List.getElem?_cons_succ, List.getElem?_cons_zero, List.set_cons_succ, List.set_cons_zero, putS, setSV, kdOf, anyTr, lawIn, isTr, trI, List.length_cons, List.length_nil, wipeOk, List.all_cons, List.all_nil, wipeR, Option.bind_some, isOmit, endOf, intOf, getL, getT, getK, parOk, parS, ne_eq, not_false_eq_true, reduceCtorEq, decide_false, decide_true, Bool.or_false, Bool.false_or, Bool.or_true, Bool.true_or, Bool.and_true, Bool.true_and, Bool.not_true, Bool.not_false, Bool.false_eq_true, if_true, if_false, ite_true, ite_false, if_pos, Nat.reduceLT, Nat.reduceAdd, ↓reduceIte, tst, truD, Bool.and_self, Bool.and_false, Bool.false_and, Nat.lt_add_one, Nat.zero_lt_succ, Nat.lt_irrefl, List.append_nil, List.cons_append, List.nil_append, mv_at.1, mv_at.2.2.1, hb]
      rfl
    have hb : binD .add (.list (acc.map rowD)) (.list ((hMoves r.1 rl fl.moves).map fun m => rowD (m.goal, r.2 ++ [m.word]))) = some (.list ((acc ++ (hMoves r.1 rl fl.moves).map fun m => (m.goal, r.2 ++ [m.word])).map rowD)) := by
      show (if lim _ = true then _ else _) = _
      rw [if_pos (lim_ok (by rw [List.length_map, List.length_map]; omega)), List.map_append, List.map_map]
      rfl
    obtain ⟨y7, y8, ih⟩ := ways_l1 (x1 := x1) (x3 := x3) (x4 := x4) (x5 := x5) rows (acc ++ (hMoves r.1 rl fl.moves).map fun m => (m.goal, r.2 ++ [m.word])) (some (.d (.str r.1))) (some (.d (tupS r.2))) (fun q hq => h1 q (List.mem_cons_of_mem _ hq)) (by rw [List.length_append, List.length_map]; omega)
    refine ⟨y7, y8, ?_⟩
    rw [List.map_cons]
    have e : acc ++ longN fl rl (r :: rows) = acc ++ (hMoves r.1 rl fl.moves).map (fun m => (m.goal, r.2 ++ [m.word])) ++ longN fl rl rows := by
      rw [List.append_assoc]
      rfl
    rw [e]
    refine forL_nx (ρ1 := [some (.d (flD fl)), x1, some (.d (rolD rl)), x3, x4, x5, some (.d (.list (acc.map rowD))), some (.d (.str r.1)), some (.d (tupS r.2)), none]) rfl ?_ ih
    simp only [exes_cons, exes_nil, exe, ev, evs, evi, go_ok, go_nx, bind_ok, pure_ok, of_some, at_ok, List.getElem?_cons_succ, List.getElem?_cons_zero, List.set_cons_succ, List.set_cons_zero, putS, setSV, kdOf, anyTr, lawIn, isTr, trI, List.length_cons, List.length_nil, wipeOk, List.all_cons, List.all_nil, wipeR, Option.bind_some, isOmit, endOf, intOf, getL, getT, getK, parOk, parS, ne_eq, not_false_eq_true, reduceCtorEq, decide_false, decide_true, Bool.or_false, Bool.false_or, Bool.or_true, Bool.true_or, Bool.and_true, Bool.true_and, Bool.not_true, Bool.not_false, Bool.false_eq_true, if_true, if_false, ite_true, ite_false, if_pos, Nat.reduceLT, Nat.reduceAdd, ↓reduceIte, tst, truD, Bool.and_self, Bool.and_false, Bool.false_and, Nat.lt_add_one, Nat.zero_lt_succ, Nat.lt_irrefl, List.append_nil, List.cons_append, List.nil_append, law_ways_l1, ec, hb]
omit hm ho in
theorem ways_l2 {x0 x1 x2 x5 x6 : Option SV} : ∀ (l : List Row) (f : Fd) (acc : List Row) (x7 x8 : Option SV), f.length + l.length ≤ 20000 → acc.length + l.length ≤ 20000 →
    ∃ x7' x8', forL (bindT (.tp (.cons (.nm 7) (.cons (.nm 8) .nil)))) (exes g law_ways_l2) (l.map rowD) [x0, x1, x2, some (.ownd false (fdD f)), some (.own (acc.map rowD)), x5, x6, x7, x8, none] k = .nx [x0, x1, x2, some (.ownd false (fdD (l.foldl addN (f, acc)).1)), some (.own ((l.foldl addN (f, acc)).2.map rowD)), x5, x6, x7', x8', none] k
  | [], f, acc, x7, x8, _, _ => ⟨x7, x8, rfl⟩
  | r :: l, f, acc, x7, x8, h1, h2 => by
    rw [List.length_cons] at h1 h2
    rw [List.map_cons, List.foldl_cons]
    by_cases hn : fget f r.1 = none
    · have ea : addN (f, acc) r = (f ++ [r], acc ++ [r]) := by unfold addN; rw [if_pos hn]
      rw [ea]
      obtain ⟨y7, y8, ih⟩ := ways_l2 (x0 := x0) (x1 := x1) (x2 := x2) (x5 := x5) (x6 := x6) l (f ++ [r]) (acc ++ [r]) (some (.d (.str r.1))) (some (.d (tupS r.2))) (by simp; omega) (by simp; omega)
      refine ⟨y7, y8, forL_nx (ρ1 := [x0, x1, x2, some (.ownd false (fdD f)), some (.own (acc.map rowD)), x5, x6, some (.d (.str r.1)), some (.d (tupS r.2)), none]) rfl ?_ ih⟩
      have z2 : lim ((fdD f).length + 1) = true := lim_ok (by unfold fdD; rw [List.length_map]; omega)
      have z3 : lim ((acc.map rowD).length + 1) = true := lim_ok (by rw [List.length_map]; omega)
      have z4 : acc.map rowD ++ [.tuple [.str r.1, tupS r.2]] = (acc ++ [r]).map rowD := by rw [List.map_append]; rfl
      have z5 : keyOk false (.str r.1) = true := rfl
      have z6 : dput (fdD f) (.str r.1) (tupS r.2) = fdD (f ++ [r]) := fd_put hn
      simp only [exes_cons, exes_nil, exe, ev, evs, evi, go_ok, go_nx, bind_ok, pure_ok, of_some, at_ok, List.getElem?_cons_succ, List.getElem?_cons_zero, List.set_cons_succ, List.set_cons_zero, putS, setSV, kdOf, anyTr, lawIn, isTr, trI, List.length_cons, List.length_nil, wipeOk, List.all_cons, List.all_nil, wipeR, Option.bind_some, isOmit, endOf, intOf, getL, getT, getK, parOk, parS, ne_eq, not_false_eq_true, reduceCtorEq, decide_false, decide_true, Bool.or_false, Bool.false_or, Bool.or_true, Bool.true_or, Bool.and_true, Bool.true_and, Bool.not_true, Bool.not_false, Bool.false_eq_true, if_true, if_false, ite_true, ite_false, if_pos, Nat.reduceLT, Nat.reduceAdd, ↓reduceIte, tst, truD, Bool.and_self, Bool.and_false, Bool.false_and, Nat.lt_add_one, Nat.zero_lt_succ, Nat.lt_irrefl, List.append_nil, List.cons_append, List.nil_append, law_ways_l2, fd_in, fd_kind, hn, Option.isSome_none, z2, z3, z4, z5, z6]
    · have ea : addN (f, acc) r = (f, acc) := by unfold addN; rw [if_neg hn]
      rw [ea]
      obtain ⟨y7, y8, ih⟩ := ways_l2 (x0 := x0) (x1 := x1) (x2 := x2) (x5 := x5) (x6 := x6) l f acc (some (.d (.str r.1))) (some (.d (tupS r.2))) (by omega) (by omega)
      refine ⟨y7, y8, forL_nx (ρ1 := [x0, x1, x2, some (.ownd false (fdD f)), some (.own (acc.map rowD)), x5, x6, some (.d (.str r.1)), some (.d (tupS r.2)), none]) rfl ?_ ih⟩
      have hs : (fget f r.1).isSome = true := by
        cases e : fget f r.1 with
        | none => exact absurd e hn
        | some _ => rfl
      simp only [exes_cons, exes_nil, exe, ev, evs, evi, go_ok, go_nx, bind_ok, pure_ok, of_some, at_ok, List.getElem?_cons_succ, List.getElem?_cons_zero, List.set_cons_succ, List.set_cons_zero, putS, setSV, kdOf, anyTr, lawIn, isTr, trI, List.length_cons, List.length_nil, wipeOk, List.all_cons, List.all_nil, wipeR, Option.bind_some, isOmit, endOf, intOf, getL, getT, getK, parOk, parS, ne_eq, not_false_eq_true, reduceCtorEq, decide_false, decide_true, Bool.or_false, Bool.false_or, Bool.or_true, Bool.true_or, Bool.and_true, Bool.true_and, Bool.not_true, Bool.not_false, Bool.false_eq_true, if_true, if_false, ite_true, ite_false, if_pos, Nat.reduceLT, Nat.reduceAdd, ↓reduceIte, tst, truD, Bool.and_self, Bool.and_false, Bool.false_and, Nat.lt_add_one, Nat.zero_lt_succ, Nat.lt_irrefl, List.append_nil, List.cons_append, List.nil_append, law_ways_l2, fd_in, fd_kind, hs]
theorem long_len {rows : List Row} : (longN fl rl rows).length ≤ 18 * rows.length := by
  induction rows with
  | nil => exact Nat.le_refl _
  | cons r rows ih =>
    have h1 : (hMoves r.1 rl fl.moves).length ≤ 18 := Nat.le_trans (List.length_filter_le ..) ho.mfew
    have e : longN fl rl (r :: rows) = (hMoves r.1 rl fl.moves).map (fun m => (m.goal, r.2 ++ [m.word])) ++ longN fl rl rows := rfl
    rw [e, List.length_append, List.length_map, List.length_cons]
    omega
theorem ways_l3 {st : Str} {x1 : Option SV} : ∀ (l : List D) (i : Nat) (s : Fd × List Row) (x5 x6 x7 x8 : Option SV), HInv fl st rl i s → i + l.length ≤ 100 →
    ∃ x5' x6' x7' x8', forL (bindT (.nm 5)) (exes g law_ways_l3) l [some (.d (flD fl)), x1, some (.d (rolD rl)), some (.ownd false (fdD s.1)), some (.own (s.2.map rowD)), x5, x6, x7, x8, none] k = .nx [some (.d (flD fl)), x1, some (.d (rolD rl)), some (.ownd false (fdD (handN fl rl l.length s).1)), some (.own ((handN fl rl l.length s).2.map rowD)), x5', x6', x7', x8', none] k
  | [], i, s, x5, x6, x7, x8, _, _ => ⟨x5, x6, x7, x8, rfl⟩
  | d :: l, i, s, x5, x6, x7, x8, w, hi => by
    rw [List.length_cons] at hi
    have few := w.few ho
    have f6 := ho.few
    obtain ⟨used, hu, _⟩ := w.loop
    have hll := long_len hm ho (rl := rl) (rows := s.2)
    obtain ⟨y7, y8, e1⟩ := ways_l1 hm ho (rl := rl) (k := k) (x1 := x1) (x3 := some (.ownd false (fdD s.1))) (x4 := some (.d (.list (s.2.map rowD)))) (x5 := some (.d d)) s.2 [] x7 x8 (fun r hr => by have := w.short r hr; omega) (by rw [List.length_nil]; omega)
    rw [List.nil_append] at e1
    have e1 : forL (bindT (.tp (.cons (.nm 7) (.cons (.nm 8) .nil)))) (exes g law_ways_l1) (s.2.map rowD) [some (.d (flD fl)), x1, some (.d (rolD rl)), some (.ownd false (fdD s.1)), some (.d (.list (s.2.map rowD))), some (.d d), some (.d (.list [])), x7, x8, none] k = _ := e1
    obtain ⟨z7, z8, e2⟩ := ways_l2 (g := g) (k := k) (x0 := some (.d (flD fl))) (x1 := x1) (x2 := some (.d (rolD rl))) (x5 := some (.d d)) (x6 := some (.d (.list ((longN fl rl s.2).map rowD)))) (longN fl rl s.2) s.1 [] y7 y8 (by omega) (by rw [List.length_nil]; omega)
    have e2 : forL (bindT (.tp (.cons (.nm 7) (.cons (.nm 8) .nil)))) (exes g law_ways_l2) ((longN fl rl s.2).map rowD) [some (.d (flD fl)), x1, some (.d (rolD rl)), some (.ownd false (fdD s.1)), some (.own []), some (.d d), some (.d (.list ((longN fl rl s.2).map rowD))), y7, y8, none] k = .nx [some (.d (flD fl)), x1, some (.d (rolD rl)), some (.ownd false (fdD (levelN fl rl s).1)), some (.own ((levelN fl rl s).2.map rowD)), some (.d d), some (.d (.list ((longN fl rl s.2).map rowD))), z7, z8, none] k := e2
    obtain ⟨v5, v6, v7, v8, ih⟩ := ways_l3 (st := st) (x1 := x1) l (i + 1) (levelN fl rl s) (some (.d d)) (some (.d (.list ((longN fl rl s.2).map rowD)))) z7 z8 (w.step ho) (by omega)
    refine ⟨v5, v6, v7, v8, ?_⟩
    refine forL_nx (ρ1 := [some (.d (flD fl)), x1, some (.d (rolD rl)), some (.ownd false (fdD s.1)), some (.own (s.2.map rowD)), some (.d d), x6, x7, x8, none]) rfl ?_ ih
    simp only [exes_cons, exes_nil, exe, ev, evs, evi, go_ok, go_nx, bind_ok, pure_ok, of_some, at_ok, List.getElem?_cons_succ, List.getElem?_cons_zero, List.set_cons_succ, List.set_cons_zero, putS, setSV, kdOf, anyTr, lawIn, isTr, trI, List.length_cons, List.length_nil, wipeOk, List.all_cons, List.all_nil, wipeR, Option.bind_some, isOmit, endOf, intOf, getL, getT, getK, parOk, parS, ne_eq, not_false_eq_true, reduceCtorEq, decide_false, decide_true, Bool.or_false, Bool.false_or, Bool.or_true, Bool.true_or, Bool.and_true, Bool.true_and, Bool.not_true, Bool.not_false, Bool.false_eq_true, if_true, if_false, ite_true, ite_false, if_pos, Nat.reduceLT, Nat.reduceAdd, ↓reduceIte, tst, truD, Bool.and_self, Bool.and_false, Bool.false_and, Nat.lt_add_one, Nat.zero_lt_succ, Nat.lt_irrefl, List.append_nil, List.cons_append, List.nil_append, law_ways_l3, e1, e2]
end
def HWaysT (f : List D → R D) : Prop := ∀ fl st rl, FlowOk fl → st ∈ nmsOf fl → f [flD fl, .str st, rolD rl] = .ok (.dict (fdD (waysF fl st rl)))
theorem hways_run {g : G} (hm : HMvT (g.fn 0)) : HWaysT (runD g 3 7 law_ways_b) := fun fl st rl ho hst => by
  refine runD_rt rfl rfl (k := 0) ?_
  show exes g law_ways_b [some (.d (flD fl)), some (.d (.str st)), some (.d (rolD rl)), none, none, none, none, none, none, none] 0 = _
  obtain ⟨v5, v6, v7, v8, e⟩ := ways_l3 hm ho (rl := rl) (k := 0) (st := st) (x1 := some (.d (.str st))) (rangeD (fl.states.length : Nat)) 0 ([(st, [])], [(st, [])]) none none none none (hinv0 hst) (by rw [rangeN_len]; have := ho.few; omega)
  rw [rangeN_len] at e
  have hl : biD .len (.tuple (fl.states.map pairD)) = some (.int (fl.states.length : Int)) := by
    show some (PyData.int ((fl.states.map pairD).length : Int)) = _
    rw [List.length_map]
  have s1 : exe g (.par [(3, true), (4, true)] (.cons (.dct (.cons (.var 1) (.cons (.tup .nil) .nil))) (.cons (.lst (.cons (.tup (.cons (.var 1) (.cons (.tup .nil) .nil))) .nil)) .nil))) [some (.d (flD fl)), some (.d (.str st)), some (.d (rolD rl)), none, none, none, none, none, none, none] 0 = .nx [some (.d (flD fl)), some (.d (.str st)), some (.d (rolD rl)), some (.ownd false (fdD [(st, [])])), some (.own ([(st, [])].map rowD)), none, none, none, none, none] 0 := rfl
  have q : evi g (.rng (.bi .len (.ix (.var 0) (.cst (.int 0))))) [some (.d (flD fl)), some (.d (.str st)), some (.d (rolD rl)), some (.ownd false (fdD [(st, [])])), some (.own ([(st, [])].map rowD)), none, none, none, none, none] 0 = .ok (rangeD (fl.states.length : Nat), 0) := evi_rng (by simp only [exes_cons, exes_nil, exe, ev, evs, evi, go_ok, go_nx, bind_ok, pure_ok, of_some, at_ok, List.getElem?_cons_succ, List.getElem?_cons_zero, List.set_cons_succ, List.set_cons_zero, putS, setSV, kdOf, anyTr, lawIn, isTr, trI, List.length_cons, List.length_nil, wipeOk, List.all_cons, List.all_nil, wipeR, Option.bind_some, isOmit, endOf, intOf, getL, getT, getK, parOk, parS, ne_eq, not_false_eq_true, reduceCtorEq, decide_false, decide_true, Bool.or_false, Bool.false_or, Bool.or_true, Bool.true_or, Bool.and_true, Bool.true_and, Bool.not_true, Bool.not_false, Bool.false_eq_true, if_true, if_false, ite_true, ite_false, if_pos, Nat.reduceLT, Nat.reduceAdd, ↓reduceIte, tst, truD, Bool.and_self, Bool.and_false, Bool.false_and, Nat.lt_add_one, Nat.zero_lt_succ, Nat.lt_irrefl, List.append_nil, List.cons_append, List.nil_append, fl_at.1, hl]) (by omega) (by have := ho.few; omega)
  have s2 : exe g (.forr (.nm 5) (.rng (.bi .len (.ix (.var 0) (.cst (.int 0))))) law_ways_l3) [some (.d (flD fl)), some (.d (.str st)), some (.d (rolD rl)), some (.ownd false (fdD [(st, [])])), some (.own ([(st, [])].map rowD)), none, none, none, none, none] 0 = .nx [some (.d (flD fl)), some (.d (.str st)), some (.d (rolD rl)), some (.ownd false (fdD (handN fl rl fl.states.length ([(st, [])], [(st, [])])).1)), some (.own ((handN fl rl fl.states.length ([(st, [])], [(st, [])])).2.map rowD)), v5, v6, v7, v8, none] 0 := by
    unfold exe
    rw [q]
    exact e
  unfold law_ways_b
  rw [exes_cons, s1, go_nx, exes_cons, s2, go_nx, exes_cons]
  have hh : (handN fl rl fl.states.length ([(st, [])], [(st, [])])).1 = waysF fl st rl := hWays_eq ho hst
  rw [hh]
  simp only [exes_cons, exes_nil, exe, ev, evs, evi, go_ok, go_nx, bind_ok, pure_ok, of_some, at_ok, List.getElem?_cons_succ, List.getElem?_cons_zero, List.set_cons_succ, List.set_cons_zero, putS, setSV, kdOf, anyTr, lawIn, isTr, trI, List.length_cons, List.length_nil, wipeOk, List.all_cons, List.all_nil, wipeR, Option.bind_some, isOmit, endOf, intOf, getL, getT, getK, parOk, parS, ne_eq, not_false_eq_true, reduceCtorEq, decide_false, decide_true, Bool.or_false, Bool.false_or, Bool.or_true, Bool.true_or, Bool.and_true, Bool.true_and, Bool.not_true, Bool.not_false, Bool.false_eq_true, if_true, if_false, ite_true, ite_false, if_pos, Nat.reduceLT, Nat.reduceAdd, ↓reduceIte, tst, truD, Bool.and_self, Bool.and_false, Bool.false_and, Nat.lt_add_one, Nat.zero_lt_succ, Nat.lt_irrefl, List.append_nil, List.cons_append, List.nil_append, fd_kind]
  rfl
end Y.N02

namespace Y.N02
open PySem PySem.W PySem.Spec PyProof.Rows L2
/-! ### the least roles by hand, run -/
def law_least_l1 : Ss := (.cons (.set 3 false (.sset (.bin .add (.var 3) (.bi .list (.ix (.var 4) (.cst (.int 3)))))))
      .nil)
def law_least_c1 : E := (.comp [7] (.nm 7) (.lst (.var 5)) (.cst (.bool true)) (.bin .add (.var 7) (.tup (.cons (.var 6) .nil))))
def law_least_l2 : Ss := (.cons (.set 5 false (.bin .add (.var 5) law_least_c1))
      .nil)
def law_least_c2 : E := (.comp [7] (.nm 7) (.lst (.var 5)) (.cmp .In (.var 2) (.lstd (.call 0 (.cons (.var 0) (.cons (.var 1) (.cons (.var 7) .nil))) .nil))) (.tup (.cons (.bi .len (.var 7)) (.cons (.var 7) .nil))))
def law_least_b : Ss :=
      (.cons (.set 3 false (.lst .nil))
      (.cons (.forr (.nm 4) (.tup (.ix (.var 0) (.cst (.int 1)))) law_least_l1)
      (.cons (.set 5 false (.lst (.cons (.tup .nil) .nil)))
      (.cons (.forr (.nm 6) (.lst (.var 3)) law_least_l2)
      (.cons (.set 8 false law_least_c2)
      (.cons (.ret (.ite (.var 8) (.ix (.mind (.var 8)) (.cst (.int 1))) (.cst .none)))
      .nil))))))
theorem k_lc2 {ρ : Rho} : kdOf ρ law_least_c2 = .fr := rfl
/-- two rising rows of the same members are one -/
theorem rise_ext : ∀ {a b : List Str}, a.Pairwise (fun x y => ltS x y = true) → b.Pairwise (fun x y => ltS x y = true) → (∀ x, x ∈ a ↔ x ∈ b) → a = b
  | [], [], _, _, _ => rfl
  | [], y :: b, _, _, h => absurd ((h y).mpr (List.mem_cons_self ..)) (by simp)
  | x :: a, [], _, _, h => absurd ((h x).mp (List.mem_cons_self ..)) (by simp)
  | x :: a, y :: b, h1, h2, h => by
    rw [List.pairwise_cons] at h1 h2
    have hxy : x = y := by
      rcases List.mem_cons.mp ((h x).mp (List.mem_cons_self ..)) with q | q
      · exact q
      · rcases List.mem_cons.mp ((h y).mpr (List.mem_cons_self ..)) with z | z
        · exact z.symm
        · have := ltS_trans (h1.1 y z) (h2.1 x q)
          rw [ltS_irrefl] at this
          cases this
    subst hxy
    congr 1
    refine rise_ext h1.2 h2.2 fun z => ⟨fun hz => ?_, fun hz => ?_⟩
    · rcases List.mem_cons.mp ((h z).mp (List.mem_cons_of_mem _ hz)) with q | q
      · have := h1.1 z hz
        rw [q, ltS_irrefl] at this
        cases this
      · exact q
    · rcases List.mem_cons.mp ((h z).mpr (List.mem_cons_of_mem _ hz)) with q | q
      · have := h2.1 z hz
        rw [q, ltS_irrefl] at this
        cases this
      · exact q
def nmStep (names : List Str) (m : Mv) : List Str := sortStr (dedS (names ++ m.roles))
theorem nm_mem : ∀ (l : List Mv) (names : List Str) (x : Str), x ∈ l.foldl nmStep names ↔ x ∈ names ∨ ∃ m ∈ l, x ∈ m.roles
  | [], names, x => by simp
  | m :: l, names, x => by
    rw [List.foldl_cons, nm_mem l]
    unfold nmStep
    rw [sort_mem, (ded_spec _).2, List.mem_append]
    constructor
    · rintro ((h | h) | ⟨m', h1, h2⟩)
      · exact .inl h
      · exact .inr ⟨m, List.mem_cons_self .., h⟩
      · exact .inr ⟨m', List.mem_cons_of_mem _ h1, h2⟩
    · rintro (h | ⟨m', h1, h2⟩)
      · exact .inl (.inl h)
      · rcases List.mem_cons.mp h1 with e | e
        · subst e; exact .inl (.inr h2)
        · exact .inr ⟨m', e, h2⟩
theorem nm_rise : ∀ (l : List Mv) (names : List Str), names.Pairwise (fun x y => ltS x y = true) → (l.foldl nmStep names).Pairwise fun x y => ltS x y = true
  | [], names, h => h
  | m :: l, names, h => by
    rw [List.foldl_cons]
    exact nm_rise l _ (sort_rise (ded_spec _).1)
theorem nm_eq {fl : Flow} : fl.moves.foldl nmStep [] = rolesN fl := by
  refine rise_ext (nm_rise _ _ .nil) rolesN_rise fun x => ?_
  rw [nm_mem, rolesN_mem]
  simp
section
variable {g : G} {fl : Flow} (ho : FlowOk fl)
theorem least_l1 {x0 x1 x2 x5 x6 x7 x8 : Option SV} {k : Nat} : ∀ (l : List Mv) (names : List Str) (x4 : Option SV), (∀ m ∈ l, m.roles.length ≤ 3 ∧ ∀ r ∈ m.roles, r ∈ roles3) → names.Nodup → (∀ r ∈ names, r ∈ roles3) →
    ∃ x4', forL (bindT (.nm 4)) (exes g law_least_l1) (l.map mvD) [x0, x1, x2, some (.d (.list (strsD names))), x4, x5, x6, x7, x8] k = .nx [x0, x1, x2, some (.d (.list (strsD (l.foldl nmStep names)))), x4', x5, x6, x7, x8] k
  | [], names, x4, _, _, _ => ⟨x4, rfl⟩
  | m :: l, names, x4, h, nd, hr => by
    obtain ⟨m1, m2⟩ := h m (List.mem_cons_self ..)
    have hn : names.length ≤ 3 := nd.length_le_of_subset (l₂ := roles3) hr
    rw [List.map_cons, List.foldl_cons]
    have hs : (nmStep names m).Nodup := by
      unfold nmStep
      exact rise_nodup (sort_rise (ded_spec _).1)
    have hm : ∀ r ∈ nmStep names m, r ∈ roles3 := fun r hq => by
      unfold nmStep at hq
      rw [sort_mem, (ded_spec _).2] at hq
      rcases List.mem_append.mp hq with z | z
      · exact hr r z
      · exact m2 r z
    obtain ⟨x4', ih⟩ := least_l1 (x0 := x0) (x1 := x1) (x2 := x2) (x5 := x5) (x6 := x6) (x7 := x7) (x8 := x8) (k := k) l (nmStep names m) (some (.d (mvD m))) (fun z hz => h z (List.mem_cons_of_mem _ hz)) hs hm
    refine ⟨x4', forL_nx (ρ1 := [x0, x1, x2, some (.d (.list (strsD names))), some (.d (mvD m)), x5, x6, x7, x8]) rfl ?_ ih⟩
    have b1 : ∀ l, biD .list (.tuple l) = some (.list l) := fun _ => rfl
    have b2 : binD .add (.list (strsD names)) (.list (strsD m.roles)) = some (.list (strsD (names ++ m.roles))) := by
      show (if lim _ = true then _ else _) = _
      rw [if_pos (lim_ok (by unfold strsD; rw [List.length_map, List.length_map]; omega))]
      unfold strsD
      rw [List.map_append]
    have b3 : seqOf (.list (strsD (names ++ m.roles))) = some (strsD (names ++ m.roles)) := rfl
    have b4 : decide ((names ++ m.roles).length < 64) = true := decide_eq_true (by rw [List.length_append]; omega)
    have es : ev g (.sset (.bin .add (.var 3) (.bi .list (.ix (.var 4) (.cst (.int 3)))))) [x0, x1, x2, some (.d (.list (strsD names))), some (.d (mvD m)), x5, x6, x7, x8] k = .ok (.list (strsD (nmStep names m)), k) := by
      have e0 : ev g (.bin .add (.var 3) (.bi .list (.ix (.var 4) (.cst (.int 3))))) [x0, x1, x2, some (.d (.list (strsD names))), some (.d (mvD m)), x5, x6, x7, x8] k = .ok (.list (strsD (names ++ m.roles)), k) := by
        simp only [exes_cons, exes_nil, exe, ev, evs, evi, go_ok, go_nx, bind_ok, pure_ok, of_some, at_ok, List.getElem?_cons_succ, List.getElem?_cons_zero, List.set_cons_succ, List.set_cons_zero, putS, setSV, kdOf, anyTr, lawIn, isTr, trI, List.length_cons, List.length_nil, wipeOk, List.all_cons, List.all_nil, wipeR, Option.bind_some, isOmit, endOf, intOf, getL, getT, getK, parOk, parS, ne_eq, not_false_eq_true, reduceCtorEq, decide_false, decide_true, Bool.or_false, Bool.false_or, Bool.or_true, Bool.true_or, Bool.and_true, Bool.true_and, Bool.not_true, Bool.not_false, Bool.false_eq_true, if_true, if_false, ite_true, ite_false, if_pos, Nat.reduceLT, Nat.reduceAdd, ↓reduceIte, tst, truD, Bool.and_self, Bool.and_false, Bool.false_and, Nat.lt_add_one, Nat.zero_lt_succ, Nat.lt_irrefl, List.append_nil, List.cons_append, List.nil_append, mv_at.2.2.2, b1, b2]
      unfold ev
      rw [e0, bind_ok]
      dsimp only
      rw [b3, of_some, bind_ok, strsOf_strsD, of_some, bind_ok, if_pos b4]
      rfl
    unfold law_least_l1
    rw [exes_cons]
    unfold exe
    rw [es]
    rfl
theorem least_l2 {x0 x1 x2 x3 x4 x8 : Option SV} {k : Nat} : ∀ (l : List Str) (sets : List (List Str)) (x6 : Option SV), (∀ r ∈ sets, r.length + l.length ≤ 1000) → sets.length * 2 ^ l.length ≤ 1000000 →
    ∃ x6', forL (bindT (.nm 6)) (exes g law_least_l2) (strsD l) [x0, x1, x2, x3, x4, some (.d (.list (sets.map tupS))), x6, none, x8] k = .nx [x0, x1, x2, x3, x4, some (.d (.list ((l.foldl (fun sets n => sets ++ sets.map fun r => r ++ [n]) sets).map tupS))), x6', none, x8] k
  | [], sets, x6, _, _ => ⟨x6, rfl⟩
  | n :: l, sets, x6, h1, h2 => by
    rw [List.length_cons] at h1 h2
    rw [strsD_cons, List.foldl_cons]
    have hp : 1 ≤ 2 ^ l.length := Nat.one_le_two_pow
    rw [Nat.pow_succ, Nat.mul_comm (2 ^ l.length), ← Nat.mul_assoc] at h2
    have hs : sets.length * 2 ≤ 1000000 := Nat.le_trans (Nat.le_mul_of_pos_right _ hp) h2
    obtain ⟨x6', ih⟩ := least_l2 (x0 := x0) (x1 := x1) (x2 := x2) (x3 := x3) (x4 := x4) (x8 := x8) (k := k) l (sets ++ sets.map fun r => r ++ [n]) (some (.d (.str n))) (fun r hr => by
      rcases List.mem_append.mp hr with q | q
      · have := h1 r q; omega
      · obtain ⟨r0, h0, rfl⟩ := List.mem_map.mp q
        have := h1 r0 h0
        rw [List.length_append, List.length_singleton]
        omega) (by rw [List.length_append, List.length_map, ← Nat.mul_two]; exact h2)
    refine ⟨x6', forL_nx (ρ1 := [x0, x1, x2, x3, x4, some (.d (.list (sets.map tupS))), some (.d (.str n)), none, x8]) rfl ?_ ih⟩
    have ec : ev g law_least_c1 [x0, x1, x2, x3, x4, some (.d (.list (sets.map tupS))), some (.d (.str n)), none, x8] k = .ok (.list (sets.map fun r => tupS (r ++ [n])), k) := by
      refine ev_compA (g := g) (k := k) sets tupS (fun r => [x0, x1, x2, x3, x4, some (.d (.list (sets.map tupS))), some (.d (.str n)), some (.d (tupS r)), x8]) (fun r => tupS (r ++ [n])) rfl rfl (fun _ _ => rfl) (fun r hr => ⟨by simp [kdOf], ?_⟩)
      have hb : binD .add (tupS r) (.tuple [.str n]) = some (tupS (r ++ [n])) := by
        show (if lim ((strsD r).length + 1) = true then _ else _) = _
        rw [if_pos (lim_ok (by unfold strsD; rw [List.length_map]; have := h1 r hr; omega))]
        unfold tupS strsD
        rw [List.map_append]
        rfl
      simp only [exes_cons, exes_nil, exe, ev, evs, evi, go_ok, go_nx, bind_ok, pure_ok, of_some, at_ok, List.getElem?_cons_succ, List.getElem?_cons_zero, List.set_cons_succ, List.set_cons_zero, putS, setSV, kdOf, anyTr, lawIn, isTr, trI, List.length_cons, List.length_nil, wipeOk, List.all_cons, List.all_nil, wipeR, Option.bind_some, isOmit, endOf, intOf, getL, getT, getK, parOk, parS, ne_eq, not_false_eq_true, reduceCtorEq, decide_false, decide_true, Bool.or_false, Bool.false_or, Bool.or_true, Bool.true_or, Bool.and_true, Bool.true_and, Bool.not_true, Bool.not_false, Bool.false_eq_true, if_true, if_false, ite_true, ite_false, if_pos, Nat.reduceLT, Nat.reduceAdd, ↓reduceIte, tst, truD, Bool.and_self, Bool.and_false, Bool.false_and, Nat.lt_add_one, Nat.zero_lt_succ, Nat.lt_irrefl, List.append_nil, List.cons_append, List.nil_append, hb]
    have hb : binD .add (.list (sets.map tupS)) (.list (sets.map fun r => tupS (r ++ [n]))) = some (.list ((sets ++ sets.map fun r => r ++ [n]).map tupS)) := by
      show (if lim _ = true then _ else _) = _
      rw [if_pos (lim_ok (by rw [List.length_map, List.length_map]; omega)), List.map_append, List.map_map]
      rfl
    simp only [exes_cons, exes_nil, exe, ev, evs, evi, go_ok, go_nx, bind_ok, pure_ok, of_some, at_ok, List.getElem?_cons_succ, List.getElem?_cons_zero, List.set_cons_succ, List.set_cons_zero, putS, setSV, kdOf, anyTr, lawIn, isTr, trI, List.length_cons, List.length_nil, wipeOk, List.all_cons, List.all_nil, wipeR, Option.bind_some, isOmit, endOf, intOf, getL, getT, getK, parOk, parS, ne_eq, not_false_eq_true, reduceCtorEq, decide_false, decide_true, Bool.or_false, Bool.false_or, Bool.or_true, Bool.true_or, Bool.and_true, Bool.true_and, Bool.not_true, Bool.not_false, Bool.false_eq_true, if_true, if_false, ite_true, ite_false, if_pos, Nat.reduceLT, Nat.reduceAdd, ↓reduceIte, tst, truD, Bool.and_self, Bool.and_false, Bool.false_and, Nat.lt_add_one, Nat.zero_lt_succ, Nat.lt_irrefl, List.append_nil, List.cons_append, List.nil_append, law_least_l2, ec, hb]
end
/-! min of the good ones -/
def gD (r : List Str) : D := .tuple [.int (r.length : Nat), tupS r]
theorem alike_strs : ∀ (a b : List Str), alikeAll (strsD a) (strsD b) = true
  | [], _ => by
    show alikeAll [] _ = true
    rw [alikeAll]
  | _ :: _, [] => by
    show alikeAll (_ :: _) [] = true
    rw [alikeAll]
  | x :: a, y :: b => by
    show alikeAll (.str x :: strsD a) (.str y :: strsD b) = true
    rw [alikeAll, alike_strs a b]
    simp [alike]
theorem alike_tupS (a b : List Str) : alike (tupS a) (tupS b) = true := by
  show alike (.tuple _) (.tuple _) = true
  rw [alike]
  exact alike_strs a b
theorem alike_gD (a b : List Str) : alike (gD a) (gD b) = true := by
  show alike (.tuple _) (.tuple _) = true
  rw [alike, alikeAll, alikeAll, alikeAll]
  simp only [alike_tupS, Bool.and_true]
  simp [alike]
theorem rowLt_strs : ∀ xs ys : List Str, rowLt (strsD xs) (strsD ys) = lexS xs ys
  | [], [] => lex_irrefl _
  | [], y :: ys => by
    show rowLt [] (PyData.str y :: strsD ys) = true
    unfold rowLt
    rw [toks_all_cons]
    simp only [keyToksAll]
    rw [lex_diff (O := itemOrd) (by simp)]
    rfl
  | x :: xs, [] => by
    show rowLt (PyData.str x :: strsD xs) [] = false
    unfold rowLt
    rw [toks_all_cons]
    simp only [keyToksAll]
    rw [lex_diff (O := itemOrd) (by simp)]
    rfl
  | x :: xs, y :: ys => by
    show rowLt (PyData.str x :: strsD xs) (PyData.str y :: strsD ys) = if x = y then lexS xs ys else ltS x y
    unfold rowLt
    rw [dataLt_cons (by simp [alike]), dataLt_str, eqv_str]
    by_cases h : x = y
    · rw [if_pos h, if_pos (decide_eq_true h)]
      exact rowLt_strs xs ys
    · rw [if_neg h, if_neg (by simpa using h)]
      rfl
theorem eqv_strs : ∀ a b : List Str, PyData.eqvAll (strsD a) (strsD b) = decide (a = b)
  | [], [] => by
    show PyData.eqvAll [] [] = _
    rw [PyData.eqvAll]
    rfl
  | [], y :: b => by
    show PyData.eqvAll [] (.str y :: strsD b) = _
    rw [PyData.eqvAll]
    · simp
    all_goals simp
  | x :: a, [] => by
    show PyData.eqvAll (.str x :: strsD a) [] = _
    rw [PyData.eqvAll]
    · simp
    all_goals simp
  | x :: a, y :: b => by
    show PyData.eqvAll (.str x :: strsD a) (.str y :: strsD b) = _
    rw [PyData.eqvAll, eqv_str, eqv_strs a b]
    by_cases h1 : x = y <;> by_cases h2 : a = b <;> simp [h1, h2]
theorem dataLt_gD (a b : List Str) : dataLt (gD a) (gD b) = ltR a b := by
  unfold gD
  rw [dataLt_pair (by simp [alike]) (alike_tupS a b), dataLt_int]
  have e1 : PyData.eqv (.int (a.length : Nat)) (.int (b.length : Nat)) = decide (a.length = b.length) := by
    rw [PyData.eqv]
    by_cases h : a.length = b.length
    · simp [h]
    · have h' : ¬ ((a.length : Int) = (b.length : Int)) := by omega
      simp [h, h']
  have e2 : dataLt (tupS a) (tupS b) = lexS a b := by
    unfold tupS
    rw [dataLt_tuple]
    exact rowLt_strs a b
  have e3 : PyData.eqv (tupS a) (tupS b) = decide (a = b) := by
    unfold tupS
    rw [PyData.eqv]
    exact eqv_strs a b
  rw [e1, e2, e3]
  unfold ltR
  by_cases h : a.length = b.length
  · rw [if_pos (decide_eq_true h), if_pos h]
    by_cases h2 : a = b
    · rw [if_pos (decide_eq_true h2), h2, lexS_irrefl]
    · rw [if_neg (by simpa using h2)]
  · rw [if_neg (by simpa using h), if_neg h]
    by_cases h2 : a.length < b.length
    · rw [decide_eq_true h2, decide_eq_true (by omega)]
    · rw [decide_eq_false h2, decide_eq_false (by omega)]
theorem minD_gD : ∀ (xs : List (List Str)) (x : List Str), minD (gD x) (xs.map gD) = gD (minR x xs)
  | [], x => rfl
  | a :: xs, x => by
    have e1 : minD (gD x) ((a :: xs).map gD) = minD (if dataLt (gD a) (gD x) then gD a else gD x) (xs.map gD) := rfl
    have e2 : minR x (a :: xs) = minR (if ltR a x then a else x) xs := rfl
    rw [e1, e2, dataLt_gD, ← minD_gD xs]
    cases ltR a x <;> rfl
theorem noD_gD (r : List Str) : noD (gD r) = true := by
  unfold gD tupS
  simp only [noD, noDs, Bool.and_true, Bool.true_and]
  exact noDs_of fun y hy => by
    obtain ⟨z, _, e⟩ := List.mem_map.mp hy
    rw [← e]; rfl
theorem depth_gD (r : List Str) : (gD r).depth ≤ 3 := by
  unfold gD tupS
  simp only [PyData.depth, PyData.depthAll]
  have := depthAll_of (l := strsD r) (n := 0) fun y hy => by
    obtain ⟨z, _, e⟩ := List.mem_map.mp hy
    rw [← e, PyData.depth]
    exact Nat.le_refl _
  omega
theorem min_good (x : List Str) (xs : List (List Str)) : minOf (.list ((x :: xs).map gD)) = some (gD (minR x xs)) := by
  have hok : alikeOk ((x :: xs).map gD) = true := by
    unfold alikeOk
    rw [Bool.and_eq_true, Bool.and_eq_true]
    refine ⟨⟨List.all_eq_true.mpr fun a ha => List.all_eq_true.mpr fun b hb => ?_, List.all_eq_true.mpr fun a ha => ?_⟩, (dOk_list (n := 3) (fun y hy => ?_) (fun y hy => ?_) (by decide)).1⟩
    · obtain ⟨p, _, rfl⟩ := List.mem_map.mp ha
      obtain ⟨q, _, rfl⟩ := List.mem_map.mp hb
      exact alike_gD p q
    · obtain ⟨p, _, rfl⟩ := List.mem_map.mp ha
      rfl
    · obtain ⟨p, _, rfl⟩ := List.mem_map.mp hy
      exact noD_gD p
    · obtain ⟨p, _, rfl⟩ := List.mem_map.mp hy
      exact depth_gD p
  have e : minOf (.list ((x :: xs).map gD)) = if alikeOk ((x :: xs).map gD) = true then some (minD (gD x) (xs.map gD)) else none := rfl
  rw [e, if_pos hok, minD_gD]
theorem keys_fd {f : Fd} : lstdD (.dict (fdD f)) = some (.list (strsD (f.map (·.1)))) := by
  show (if kindD (fdD f) = true then none else some (PyData.list ((fdD f).map (·.1)))) = _
  rw [fd_kind, if_neg (by decide)]
  unfold fdD strsD
  rw [List.map_map, List.map_map]
  rfl
def HLeastT (f : List D → R D) : Prop := ∀ fl st z, FlowOk fl → st ∈ nmsOf fl → f [flD fl, .str st, .str z] = .ok (pO (leastN fl st z))
theorem hleast_run {g : G} (hw : HWaysT (g.fn 0)) : HLeastT (runD g 3 6 law_least_b) := fun fl st z ho hst => by
  refine runD_rt rfl rfl (k := 0) ?_
  show exes g law_least_b [some (.d (flD fl)), some (.d (.str st)), some (.d (.str z)), none, none, none, none, none, none] 0 = _
  obtain ⟨x4', e1⟩ := least_l1 (g := g) (x0 := some (.d (flD fl))) (x1 := some (.d (.str st))) (x2 := some (.d (.str z))) (x5 := none) (x6 := none) (x7 := none) (x8 := none) (k := 0) fl.moves [] none (fun m hm => ⟨(ho.mv m hm).2.2.2.2.2, (ho.mv m hm).2.2.2.2.1⟩) .nil (by simp)
  rw [nm_eq] at e1
  have e1 : forL (bindT (.nm 4)) (exes g law_least_l1) (fl.moves.map mvD) [some (.d (flD fl)), some (.d (.str st)), some (.d (.str z)), some (.d (.list [])), none, none, none, none, none] 0 = _ := e1
  have hf := rolesN_few ho
  obtain ⟨x6', e2⟩ := least_l2 (g := g) (x0 := some (.d (flD fl))) (x1 := some (.d (.str st))) (x2 := some (.d (.str z))) (x3 := some (.d (.list (strsD (rolesN fl))))) (x4 := x4') (x8 := none) (k := 0) (rolesN fl) [[]] none (by intro r hr; rw [List.mem_singleton.mp hr]; simp; omega) (by
    rw [List.length_singleton, Nat.one_mul]
    have : (rolesN fl).length = 0 ∨ (rolesN fl).length = 1 ∨ (rolesN fl).length = 2 ∨ (rolesN fl).length = 3 := by omega
    rcases this with h | h | h | h <;> rw [h] <;> decide)
  have e2 : forL (bindT (.nm 6)) (exes g law_least_l2) (strsD (rolesN fl)) [some (.d (flD fl)), some (.d (.str st)), some (.d (.str z)), some (.d (.list (strsD (rolesN fl)))), x4', some (.d (.list [.tuple []])), none, none, none] 0 = .nx [some (.d (flD fl)), some (.d (.str st)), some (.d (.str z)), some (.d (.list (strsD (rolesN fl)))), x4', some (.d (.list ((hSets (rolesN fl)).map tupS))), x6', none, none] 0 := e2
  have ec : ev g law_least_c2 [some (.d (flD fl)), some (.d (.str st)), some (.d (.str z)), some (.d (.list (strsD (rolesN fl)))), x4', some (.d (.list ((hSets (rolesN fl)).map tupS))), x6', none, none] 0 = .ok (.list ((hGood fl st z).map gD), 0) := by
    refine ev_comp (g := g) (k := 0) (hSets (rolesN fl)) tupS (fun r => [some (.d (flD fl)), some (.d (.str st)), some (.d (.str z)), some (.d (.list (strsD (rolesN fl)))), x4', some (.d (.list ((hSets (rolesN fl)).map tupS))), x6', some (.d (tupS r)), none]) (fun r => (wayN fl st z (some r)).isSome) gD rfl rfl (fun _ _ => rfl) (fun r _ => tstB ?_) (fun r _ _ => ⟨by simp [kdOf], ?_⟩)
    · have e : g.fn 0 [flD fl, .str st, tupS r] = .ok (.dict (fdD (waysF fl st (some r)))) := hw fl st (some r) ho hst
      have ei : decide (z ∈ (waysF fl st (some r)).map (·.1)) = (wayN fl st z (some r)).isSome := by
        rw [Bool.eq_iff_iff, decide_eq_true_iff]
        exact fget_mem.symm
      simp only [exes_cons, exes_nil, exe, ev, evs, evi, go_ok, go_nx, bind_ok, pure_ok, of_some, at_ok, List.getElem?_cons_succ, List.getElem?_cons_zero, List.set_cons_succ, List.set_cons_zero, putS, setSV, kdOf, anyTr, lawIn, isTr, trI, List.length_cons, List.length_nil, wipeOk, List.all_cons, List.all_nil, wipeR, Option.bind_some, isOmit, endOf, intOf, getL, getT, getK, parOk, parS, ne_eq, not_false_eq_true, reduceCtorEq, decide_false, decide_true, Bool.or_false, Bool.false_or, Bool.or_true, Bool.true_or, Bool.and_true, Bool.true_and, Bool.not_true, Bool.not_false, Bool.false_eq_true, if_true, if_false, ite_true, ite_false, if_pos, Nat.reduceLT, Nat.reduceAdd, ↓reduceIte, tst, truD, Bool.and_self, Bool.and_false, Bool.false_and, Nat.lt_add_one, Nat.zero_lt_succ, Nat.lt_irrefl, List.append_nil, List.cons_append, List.nil_append, e, keys_fd, in_lst, ei]
    · have hl : biD .len (tupS r) = some (.int (r.length : Nat)) := len_tup
      simp only [exes_cons, exes_nil, exe, ev, evs, evi, go_ok, go_nx, bind_ok, pure_ok, of_some, at_ok, List.getElem?_cons_succ, List.getElem?_cons_zero, List.set_cons_succ, List.set_cons_zero, putS, setSV, kdOf, anyTr, lawIn, isTr, trI, List.length_cons, List.length_nil, wipeOk, List.all_cons, List.all_nil, wipeR, Option.bind_some, isOmit, endOf, intOf, getL, getT, getK, parOk, parS, ne_eq, not_false_eq_true, reduceCtorEq, decide_false, decide_true, Bool.or_false, Bool.false_or, Bool.or_true, Bool.true_or, Bool.and_true, Bool.true_and, Bool.not_true, Bool.not_false, Bool.false_eq_true, if_true, if_false, ite_true, ite_false, if_pos, Nat.reduceLT, Nat.reduceAdd, ↓reduceIte, tst, truD, Bool.and_self, Bool.and_false, Bool.false_and, Nat.lt_add_one, Nat.zero_lt_succ, Nat.lt_irrefl, List.append_nil, List.cons_append, List.nil_append, hl]
      rfl
  have er : ev g (.ite (.var 8) (.ix (.mind (.var 8)) (.cst (.int 1))) (.cst .none)) [some (.d (flD fl)), some (.d (.str st)), some (.d (.str z)), some (.d (.list (strsD (rolesN fl)))), x4', some (.d (.list ((hSets (rolesN fl)).map tupS))), x6', none, some (.d (.list ((hGood fl st z).map gD)))] 0 = .ok (pO (leastN fl st z), 0) := by
    rw [← hLeast_eq]
    unfold hLeast
    cases hg : hGood fl st z with
    | nil => rfl
    | cons x xs =>
      have hm := min_good x xs
      have hi : ixD (gD (minR x xs)) (.int 1) = some (tupS (minR x xs)) := rfl
      have ht : truD (.list ((x :: xs).map gD)) = some true := rfl
      have e0 : ev g (.var 8) [some (.d (flD fl)), some (.d (.str st)), some (.d (.str z)), some (.d (.list (strsD (rolesN fl)))), x4', some (.d (.list ((hSets (rolesN fl)).map tupS))), x6', none, some (.d (.list ((x :: xs).map gD)))] 0 = .ok (.list ((x :: xs).map gD), 0) := rfl
      have e1 : ev g (.mind (.var 8)) [some (.d (flD fl)), some (.d (.str st)), some (.d (.str z)), some (.d (.list (strsD (rolesN fl)))), x4', some (.d (.list ((hSets (rolesN fl)).map tupS))), x6', none, some (.d (.list ((x :: xs).map gD)))] 0 = .ok (gD (minR x xs), 0) := by
        unfold ev
        rw [e0, bind_ok]
        dsimp only
        rw [hm]
        rfl
      unfold ev
      rw [e0, bind_ok]
      dsimp only
      rw [ht, of_some, bind_ok, if_pos rfl]
      unfold ev
      rw [e1, bind_ok]
      dsimp only
      rw [ev_cst, bind_ok]
      dsimp only
      rw [hi]
      rfl
  have s1 : exe g (.forr (.nm 4) (.tup (.ix (.var 0) (.cst (.int 1)))) law_least_l1) [some (.d (flD fl)), some (.d (.str st)), some (.d (.str z)), some (.d (.list [])), none, none, none, none, none] 0 = .nx [some (.d (flD fl)), some (.d (.str st)), some (.d (.str z)), some (.d (.list (strsD (rolesN fl)))), x4', none, none, none, none] 0 := by
    simp only [exes_cons, exes_nil, exe, ev, evs, evi, go_ok, go_nx, bind_ok, pure_ok, of_some, at_ok, List.getElem?_cons_succ, List.getElem?_cons_zero, List.set_cons_succ, List.set_cons_zero, putS, setSV, kdOf, anyTr, lawIn, isTr, trI, List.length_cons, List.length_nil, wipeOk, List.all_cons, List.all_nil, wipeR, Option.bind_some, isOmit, endOf, intOf, getL, getT, getK, parOk, parS, ne_eq, not_false_eq_true, reduceCtorEq, decide_false, decide_true, Bool.or_false, Bool.false_or, Bool.or_true, Bool.true_or, Bool.and_true, Bool.true_and, Bool.not_true, Bool.not_false, Bool.false_eq_true, if_true, if_false, ite_true, ite_false, if_pos, Nat.reduceLT, Nat.reduceAdd, ↓reduceIte, tst, truD, Bool.and_self, Bool.and_false, Bool.false_and, Nat.lt_add_one, Nat.zero_lt_succ, Nat.lt_irrefl, List.append_nil, List.cons_append, List.nil_append, fl_at.2, e1]
  have s2 : exe g (.set 3 false (.lst .nil)) [some (.d (flD fl)), some (.d (.str st)), some (.d (.str z)), none, none, none, none, none, none] 0 = .nx [some (.d (flD fl)), some (.d (.str st)), some (.d (.str z)), some (.d (.list [])), none, none, none, none, none] 0 := rfl
  have s3 : exe g (.set 5 false (.lst (.cons (.tup .nil) .nil))) [some (.d (flD fl)), some (.d (.str st)), some (.d (.str z)), some (.d (.list (strsD (rolesN fl)))), x4', none, none, none, none] 0 = .nx [some (.d (flD fl)), some (.d (.str st)), some (.d (.str z)), some (.d (.list (strsD (rolesN fl)))), x4', some (.d (.list [.tuple []])), none, none, none] 0 := rfl
  have s4 : exe g (.forr (.nm 6) (.lst (.var 3)) law_least_l2) [some (.d (flD fl)), some (.d (.str st)), some (.d (.str z)), some (.d (.list (strsD (rolesN fl)))), x4', some (.d (.list [.tuple []])), none, none, none] 0 = .nx [some (.d (flD fl)), some (.d (.str st)), some (.d (.str z)), some (.d (.list (strsD (rolesN fl)))), x4', some (.d (.list ((hSets (rolesN fl)).map tupS))), x6', none, none] 0 := by
    simp only [exes_cons, exes_nil, exe, ev, evs, evi, go_ok, go_nx, bind_ok, pure_ok, of_some, at_ok, List.getElem?_cons_succ, List.getElem?_cons_zero, List.set_cons_succ, List.set_cons_zero, putS, setSV, kdOf, anyTr, lawIn, isTr, trI, List.length_cons, List.length_nil, wipeOk, List.all_cons, List.all_nil, wipeR, Option.bind_some, isOmit, endOf, intOf, getL, getT, getK, parOk, parS, ne_eq, not_false_eq_true, reduceCtorEq, decide_false, decide_true, Bool.or_false, Bool.false_or, Bool.or_true, Bool.true_or, Bool.and_true, Bool.true_and, Bool.not_true, Bool.not_false, Bool.false_eq_true, if_true, if_false, ite_true, ite_false, if_pos, Nat.reduceLT, Nat.reduceAdd, ↓reduceIte, tst, truD, Bool.and_self, Bool.and_false, Bool.false_and, Nat.lt_add_one, Nat.zero_lt_succ, Nat.lt_irrefl, List.append_nil, List.cons_append, List.nil_append, e2]
  have s5 : exe g (.set 8 false law_least_c2) [some (.d (flD fl)), some (.d (.str st)), some (.d (.str z)), some (.d (.list (strsD (rolesN fl)))), x4', some (.d (.list ((hSets (rolesN fl)).map tupS))), x6', none, none] 0 = .nx [some (.d (flD fl)), some (.d (.str st)), some (.d (.str z)), some (.d (.list (strsD (rolesN fl)))), x4', some (.d (.list ((hSets (rolesN fl)).map tupS))), x6', none, some (.d (.list ((hGood fl st z).map gD)))] 0 := by
    simp only [exes_cons, exes_nil, exe, ev, evs, evi, go_ok, go_nx, bind_ok, pure_ok, of_some, at_ok, List.getElem?_cons_succ, List.getElem?_cons_zero, List.set_cons_succ, List.set_cons_zero, putS, setSV, kdOf, anyTr, lawIn, isTr, trI, List.length_cons, List.length_nil, wipeOk, List.all_cons, List.all_nil, wipeR, Option.bind_some, isOmit, endOf, intOf, getL, getT, getK, parOk, parS, ne_eq, not_false_eq_true, reduceCtorEq, decide_false, decide_true, Bool.or_false, Bool.false_or, Bool.or_true, Bool.true_or, Bool.and_true, Bool.true_and, Bool.not_true, Bool.not_false, Bool.false_eq_true, if_true, if_false, ite_true, ite_false, if_pos, Nat.reduceLT, Nat.reduceAdd, ↓reduceIte, tst, truD, Bool.and_self, Bool.and_false, Bool.false_and, Nat.lt_add_one, Nat.zero_lt_succ, Nat.lt_irrefl, List.append_nil, List.cons_append, List.nil_append, ec, k_lc2]
  unfold law_least_b
  rw [exes_cons, s2, go_nx, exes_cons, s1, go_nx, exes_cons, s3, go_nx, exes_cons, s4, go_nx, exes_cons, s5, go_nx, exes_cons]
  unfold exe
  rw [er]
  rfl
end Y.N02

namespace Y.N02
open PySem PySem.W PySem.Spec PyProof.Rows L2
/-! ### a state holds -/
def st_c1 : E := (.comp [4, 5] (.tp (.cons (.nm 4) (.cons (.nm 5) .nil))) (.tup (.ix (.var 0) (.cst (.int 0)))) (.cst (.bool true)) (.var 4))
def st_c2 : E := (.comp [4, 5] (.tp (.cons (.nm 4) (.cons (.nm 5) .nil))) (.tup (.ix (.var 0) (.cst (.int 0)))) (.cmp .Eq (.var 4) (.var 1)) (.var 5))
def st_c3 : E := (.comp [8] (.nm 8) (.tup (.ix (.var 0) (.cst (.int 1)))) (.bop false (.cmp .Eq (.ix (.var 8) (.cst (.int 0))) (.var 6)) (.cmp .Eq (.ix (.var 8) (.cst (.int 1))) (.var 1))) (.ix (.var 8) (.cst (.int 2))))
def st_l1 : Ss := (.cons (.set 7 false st_c3)
      (.cons (.iff (.nt (.call 0 (.cons (.call 2 (.cons (.var 0) (.cons (.var 1) (.cons (.var 6) .nil))) .nil) (.cons (.ite (.var 7) (.ix (.var 7) (.cst (.int 0))) (.cst .none)) .nil)) .nil)) (.cons (.ret (.cst (.bool false)))
      .nil) .nil)
      .nil))
def st_c4 : E := (.comp [8] (.nm 8) (.lst (.call 4 (.cons (.var 0) (.cons (.var 1) (.cons (.var 9) .nil))) .nil)) (.cst (.bool true)) (.ix (.var 8) (.cst (.int 0))))
def st_c5 : E := (.comp [4] (.nm 4) (.lst (.var 3)) (.cmp .In (.var 4) (.var 10)) (.var 4))
def st_c6 : E := (.comp [11] (.nm 11) (.lst (.var 3)) (.cst (.bool true)) (.call 0 (.cons (.call 7 (.cons (.var 0) (.cons (.var 1) (.cons (.var 11) .nil))) (.cons (.var 9) .nil)) (.cons (.mt .get (.var 10) (.cons (.var 11) (.cons (.cst .none) .nil))) .nil)) .nil))
def st_l2 : Ss := (.cons (.set 10 false (.call 3 (.cons (.var 0) (.cons (.var 1) (.cons (.var 9) .nil))) .nil))
      (.cons (.set 7 false (.bi .tuple st_c4))
      (.cons (.iff (.nt (.call 0 (.cons (.call 5 (.cons (.var 0) (.cons (.var 1) .nil)) (.cons (.var 9) .nil)) (.cons (.var 7) .nil)) .nil)) (.cons (.ret (.cst (.bool false)))
      .nil) .nil)
      (.cons (.iff (.nt (.call 0 (.cons (.call 6 (.cons (.var 0) (.cons (.var 1) .nil)) (.cons (.var 9) .nil)) (.cons (.bi .tuple st_c5) .nil)) .nil)) (.cons (.ret (.cst (.bool false)))
      .nil) .nil)
      (.cons (.iff (.nt (.bi .all st_c6)) (.cons (.ret (.cst (.bool false)))
      .nil) .nil)
      .nil)))))
def st_c7 : E := (.comp [11] (.nm 11) (.lst (.var 3)) (.cst (.bool true)) (.call 0 (.cons (.call 9 (.cons (.var 0) (.cons (.var 1) (.cons (.var 11) .nil))) .nil) (.cons (.call 8 (.cons (.var 0) (.cons (.var 1) (.cons (.var 11) .nil))) .nil) .nil)) .nil))
def st_b : Ss :=
      (.cons (.set 3 false st_c1)
      (.cons (.iff (.nt (.call 0 (.cons (.call 1 (.cons (.var 0) (.cons (.var 1) .nil)) .nil) (.cons (.ix st_c2 (.cst (.int 0))) .nil)) .nil)) (.cons (.ret (.cst (.bool false)))
      .nil) .nil)
      (.cons (.forr (.nm 6) (.tup (.tup (.cons (.cst (.str "go")) (.cons (.cst (.str "back")) (.cons (.cst (.str "end")) (.cons (.cst (.str "skip")) (.cons (.cst (.str "none")) .nil))))))) st_l1)
      (.cons (.forr (.nm 9) (.tup (.tup (.cons (.cst .none) (.cons (.var 2) .nil)))) st_l2)
      (.cons (.ret (.bi .all st_c7))
      .nil)))))
theorem k1 {ρ : Rho} : kdOf ρ st_c1 = .fr := rfl
theorem k3 {ρ : Rho} : kdOf ρ st_c3 = .fr := rfl
structure StG (g : G) : Prop where
  same : SameT 24 (g.fn 0)
  sort : SortT (g.fn 1)
  goal : GoalT (g.fn 2)
  ways : HWaysT (g.fn 3)
  moves : HMvT (g.fn 4)
  mvs : MvsT (g.fn 5)
  reach : ReachT (g.fn 6)
  way : WayT (g.fn 7)
  hleast : HLeastT (g.fn 8)
  least : LeastT (g.fn 9)
def dueN (st w : Str) (l : List Mv) : List Str := (l.filter fun m => decide (m.word = w) && decide (m.beg = st)).map (·.goal)
theorem due_head {st w : Str} : ∀ {l : List Mv}, (dueN st w l).head? = goalIn st w l
  | [] => rfl
  | m :: l => by
    unfold goalIn dueN
    by_cases h : (m.word, m.beg) = (w, st)
    · have h1 := (Prod.mk.inj h).1
      have h2 := (Prod.mk.inj h).2
      rw [if_pos h, List.filter_cons_of_pos (by simp [h1, h2])]
      rfl
    · rw [if_neg h, List.filter_cons_of_neg]
      · exact due_head
      · intro z
        rw [Bool.and_eq_true] at z
        exact h (by rw [of_decide_eq_true z.1, of_decide_eq_true z.2])
theorem hMoves_words {st : Str} {rl : Option (List Str)} : ∀ {l : List Mv}, (hMoves st rl l).map (·.word) = movesOf st rl l
  | [] => rfl
  | m :: l => by
    unfold movesOf hMoves
    by_cases h : m.beg = st ∧ mayDo m rl = true
    · rw [if_pos h, List.filter_cons_of_pos (by simp [h.1, h.2]), List.map_cons]
      congr 1
      exact hMoves_words
    · rw [if_neg h, List.filter_cons_of_neg (by intro z; simp at z; exact h z)]
      exact hMoves_words
theorem all_trues {α : Type} {l : List α} : biD .all (.list (l.map fun _ => .bool true)) = some (.bool true) := by
  show (boolsOf _).map _ = _
  rw [boolsOf_map (f := fun _ => true)]
  simp
section
variable {g : G} (hg : StG g) {fl : Flow} (ho : FlowOk fl) {st : Str} (hst : st ∈ nmsOf fl) {sm : List Str} {k : Nat}
include hg ho hst
omit ho hst in
theorem st_l1_run {x2 x3 : Option SV} : ∀ (l : List Str) (x6 x7 : Option SV), ∃ x6' x7', forL (bindT (.nm 6)) (exes g st_l1) (strsD l) [some (.d (flD fl)), some (.d (.str st)), x2, x3, none, none, x6, x7, none, none, none, none] k = .nx [some (.d (flD fl)), some (.d (.str st)), x2, x3, none, none, x6', x7', none, none, none, none] k
  | [], x6, x7 => ⟨x6, x7, rfl⟩
  | w :: l, x6, x7 => by
    rw [strsD_cons]
    obtain ⟨y6, y7, ih⟩ := st_l1_run (x2 := x2) (x3 := x3) l (some (.d (.str w))) (some (.d (.list (strsD (dueN st w fl.moves)))))
    refine ⟨y6, y7, forL_nx (ρ1 := [some (.d (flD fl)), some (.d (.str st)), x2, x3, none, none, some (.d (.str w)), x7, none, none, none, none]) rfl ?_ ih⟩
    have ec : ev g st_c3 [some (.d (flD fl)), some (.d (.str st)), x2, x3, none, none, some (.d (.str w)), x7, none, none, none, none] k = .ok (.list (strsD (dueN st w fl.moves)), k) := by
      have h := ev_comp (g := g) (own := [8]) (tg := .nm 8) (it := .tup (.ix (.var 0) (.cst (.int 1)))) (c := .bop false (.cmp .Eq (.ix (.var 8) (.cst (.int 0))) (.var 6)) (.cmp .Eq (.ix (.var 8) (.cst (.int 1))) (.var 1))) (elt := .ix (.var 8) (.cst (.int 2))) (ρ0 := [some (.d (flD fl)), some (.d (.str st)), x2, x3, none, none, some (.d (.str w)), x7, none, none, none, none]) (k := k)
        fl.moves mvD (fun m => [some (.d (flD fl)), some (.d (.str st)), x2, x3, none, none, some (.d (.str w)), x7, some (.d (mvD m)), none, none, none]) (fun m => decide (m.word = w) && decide (m.beg = st)) (fun m => .str m.goal) rfl (by simp only [exes_cons, exes_nil, exe, ev, evs, evi, go_ok, go_nx, bind_ok, pure_ok, of_some, at_ok, List.getElem?_cons_succ, List.getElem?_cons_zero, List.set_cons_succ, List.set_cons_zero, putS, setSV, kdOf, anyTr, lawIn, isTr, trI, List.length_cons, List.length_nil, wipeOk, List.all_cons, List.all_nil, wipeR, Option.bind_some, isOmit, endOf, intOf, getL, getT, getK, parOk, parS, ne_eq, not_false_eq_true, reduceCtorEq, decide_false, decide_true, Bool.or_false, Bool.false_or, Bool.or_true, Bool.true_or, Bool.and_true, Bool.true_and, Bool.not_true, Bool.not_false, Bool.false_eq_true, if_true, if_false, ite_true, ite_false, if_pos, Nat.reduceLT, Nat.reduceAdd, ↓reduceIte, tst, truD, Bool.and_self, Bool.and_false, Bool.false_and, Nat.lt_add_one, Nat.zero_lt_succ, Nat.lt_irrefl, List.append_nil, List.cons_append, List.nil_append, fl_at.2]) (fun _ _ => rfl) (fun m _ => ?_) (fun m _ _ => ⟨by simp [kdOf], by simp only [exes_cons, exes_nil, exe, ev, evs, evi, go_ok, go_nx, bind_ok, pure_ok, of_some, at_ok, List.getElem?_cons_succ, List.getElem?_cons_zero, List.set_cons_succ, List.set_cons_zero, putS, setSV, kdOf, anyTr, lawIn, isTr, trI, List.length_cons, List.length_nil, wipeOk, List.all_cons, List.all_nil, wipeR, Option.bind_some, isOmit, endOf, intOf, getL, getT, getK, parOk, parS, ne_eq, not_false_eq_true, reduceCtorEq, decide_false, decide_true, Bool.or_false, Bool.false_or, Bool.or_true, Bool.true_or, Bool.and_true, Bool.true_and, Bool.not_true, Bool.not_false, Bool.false_eq_true, if_true, if_false, ite_true, ite_false, if_pos, Nat.reduceLT, Nat.reduceAdd, ↓reduceIte, tst, truD, Bool.and_self, Bool.and_false, Bool.false_and, Nat.lt_add_one, Nat.zero_lt_succ, Nat.lt_irrefl, List.append_nil, List.cons_append, List.nil_append, mv_at.2.2.1]⟩)
      · unfold st_c3
        rw [h]
        unfold dueN strsD
        rw [List.map_map]
        rfl
      · refine tstB ?_
        by_cases e : m.word = w
        · simp only [exes_cons, exes_nil, exe, ev, evs, evi, go_ok, go_nx, bind_ok, pure_ok, of_some, at_ok, List.getElem?_cons_succ, List.getElem?_cons_zero, List.set_cons_succ, List.set_cons_zero, putS, setSV, kdOf, anyTr, lawIn, isTr, trI, List.length_cons, List.length_nil, wipeOk, List.all_cons, List.all_nil, wipeR, Option.bind_some, isOmit, endOf, intOf, getL, getT, getK, parOk, parS, ne_eq, not_false_eq_true, reduceCtorEq, decide_false, decide_true, Bool.or_false, Bool.false_or, Bool.or_true, Bool.true_or, Bool.and_true, Bool.true_and, Bool.not_true, Bool.not_false, Bool.false_eq_true, if_true, if_false, ite_true, ite_false, if_pos, Nat.reduceLT, Nat.reduceAdd, ↓reduceIte, tst, truD, Bool.and_self, Bool.and_false, Bool.false_and, Nat.lt_add_one, Nat.zero_lt_succ, Nat.lt_irrefl, List.append_nil, List.cons_append, List.nil_append, mv_at.1, mv_at.2.1, eqD_str, e]
        · simp only [exes_cons, exes_nil, exe, ev, evs, evi, go_ok, go_nx, bind_ok, pure_ok, of_some, at_ok, List.getElem?_cons_succ, List.getElem?_cons_zero, List.set_cons_succ, List.set_cons_zero, putS, setSV, kdOf, anyTr, lawIn, isTr, trI, List.length_cons, List.length_nil, wipeOk, List.all_cons, List.all_nil, wipeR, Option.bind_some, isOmit, endOf, intOf, getL, getT, getK, parOk, parS, ne_eq, not_false_eq_true, reduceCtorEq, decide_false, decide_true, Bool.or_false, Bool.false_or, Bool.or_true, Bool.true_or, Bool.and_true, Bool.true_and, Bool.not_true, Bool.not_false, Bool.false_eq_true, if_true, if_false, ite_true, ite_false, if_pos, Nat.reduceLT, Nat.reduceAdd, ↓reduceIte, tst, truD, Bool.and_self, Bool.and_false, Bool.false_and, Nat.lt_add_one, Nat.zero_lt_succ, Nat.lt_irrefl, List.append_nil, List.cons_append, List.nil_append, mv_at.1, mv_at.2.1, eqD_str, e]
    have e0 := hg.goal fl st w
    have es := hg.same (strO (goalIn st w fl.moves)) okS_strO
    have ei : ev g (.ite (.var 7) (.ix (.var 7) (.cst (.int 0))) (.cst .none)) [some (.d (flD fl)), some (.d (.str st)), x2, x3, none, none, some (.d (.str w)), some (.d (.list (strsD (dueN st w fl.moves)))), none, none, none, none] k = .ok (strO (goalIn st w fl.moves), k) := by
      rw [← due_head]
      cases dueN st w fl.moves with
      | nil => rfl
      | cons a r =>
        have h0 : ixD (.list (strsD (a :: r))) (.int 0) = some (.str a) := atI_zero
        have h1 : truD (.list (strsD (a :: r))) = some true := rfl
        have h2 : ev g (.var 7) [some (.d (flD fl)), some (.d (.str st)), x2, x3, none, none, some (.d (.str w)), some (.d (.list (strsD (a :: r)))), none, none, none, none] k = .ok (.list (strsD (a :: r)), k) := rfl
        unfold ev
        rw [h2, bind_ok]
        dsimp only
        rw [h1, of_some, bind_ok, if_pos rfl]
        unfold ev
        rw [h2, bind_ok]
        dsimp only
        rw [ev_cst, bind_ok]
        dsimp only
        rw [h0]
        rfl
    have s1 : exe g (.set 7 false st_c3) [some (.d (flD fl)), some (.d (.str st)), x2, x3, none, none, some (.d (.str w)), x7, none, none, none, none] k = .nx [some (.d (flD fl)), some (.d (.str st)), x2, x3, none, none, some (.d (.str w)), some (.d (.list (strsD (dueN st w fl.moves)))), none, none, none, none] k := by
      simp only [exes_cons, exes_nil, exe, ev, evs, evi, go_ok, go_nx, bind_ok, pure_ok, of_some, at_ok, List.getElem?_cons_succ, List.getElem?_cons_zero, List.set_cons_succ, List.set_cons_zero, putS, setSV, kdOf, anyTr, lawIn, isTr, trI, List.length_cons, List.length_nil, wipeOk, List.all_cons, List.all_nil, wipeR, Option.bind_some, isOmit, endOf, intOf, getL, getT, getK, parOk, parS, ne_eq, not_false_eq_true, reduceCtorEq, decide_false, decide_true, Bool.or_false, Bool.false_or, Bool.or_true, Bool.true_or, Bool.and_true, Bool.true_and, Bool.not_true, Bool.not_false, Bool.false_eq_true, if_true, if_false, ite_true, ite_false, if_pos, Nat.reduceLT, Nat.reduceAdd, ↓reduceIte, tst, truD, Bool.and_self, Bool.and_false, Bool.false_and, Nat.lt_add_one, Nat.zero_lt_succ, Nat.lt_irrefl, List.append_nil, List.cons_append, List.nil_append, ec, k3]
    have ec2 : ev g (.call 0 (.cons (.call 2 (.cons (.var 0) (.cons (.var 1) (.cons (.var 6) .nil))) .nil) (.cons (.ite (.var 7) (.ix (.var 7) (.cst (.int 0))) (.cst .none)) .nil)) .nil) [some (.d (flD fl)), some (.d (.str st)), x2, x3, none, none, some (.d (.str w)), some (.d (.list (strsD (dueN st w fl.moves)))), none, none, none, none] k = .ok (.bool true, k) := by
      have ea : evs g (.cons (.call 2 (.cons (.var 0) (.cons (.var 1) (.cons (.var 6) .nil))) .nil) (.cons (.ite (.var 7) (.ix (.var 7) (.cst (.int 0))) (.cst .none)) .nil)) [some (.d (flD fl)), some (.d (.str st)), x2, x3, none, none, some (.d (.str w)), some (.d (.list (strsD (dueN st w fl.moves)))), none, none, none, none] k = .ok ([strO (goalIn st w fl.moves), strO (goalIn st w fl.moves)], k) := by
        have e1 : ev g (.call 2 (.cons (.var 0) (.cons (.var 1) (.cons (.var 6) .nil))) .nil) [some (.d (flD fl)), some (.d (.str st)), x2, x3, none, none, some (.d (.str w)), some (.d (.list (strsD (dueN st w fl.moves)))), none, none, none, none] k = .ok (strO (goalIn st w fl.moves), k) := by
          simp only [exes_cons, exes_nil, exe, ev, evs, evi, go_ok, go_nx, bind_ok, pure_ok, of_some, at_ok, List.getElem?_cons_succ, List.getElem?_cons_zero, List.set_cons_succ, List.set_cons_zero, putS, setSV, kdOf, anyTr, lawIn, isTr, trI, List.length_cons, List.length_nil, wipeOk, List.all_cons, List.all_nil, wipeR, Option.bind_some, isOmit, endOf, intOf, getL, getT, getK, parOk, parS, ne_eq, not_false_eq_true, reduceCtorEq, decide_false, decide_true, Bool.or_false, Bool.false_or, Bool.or_true, Bool.true_or, Bool.and_true, Bool.true_and, Bool.not_true, Bool.not_false, Bool.false_eq_true, if_true, if_false, ite_true, ite_false, if_pos, Nat.reduceLT, Nat.reduceAdd, ↓reduceIte, tst, truD, Bool.and_self, Bool.and_false, Bool.false_and, Nat.lt_add_one, Nat.zero_lt_succ, Nat.lt_irrefl, List.append_nil, List.cons_append, List.nil_append, e0]
        show (ev g _ _ _ >>= _) = _
        rw [e1, bind_ok]
        show ((ev g _ _ _ >>= _) >>= _) = _
        rw [ei]
        rfl
      unfold ev
      rw [ea, bind_ok]
      dsimp only
      show ((R.ok ([], k) : R (List D × Nat)) >>= _) = _
      rw [bind_ok]
      show ((g.fn 0 ([strO (goalIn st w fl.moves), strO (goalIn st w fl.moves)] ++ [])).at k >>= _) = _
      rw [List.append_nil, es]
      rfl
    have s2 : exe g (.iff (.nt (.call 0 (.cons (.call 2 (.cons (.var 0) (.cons (.var 1) (.cons (.var 6) .nil))) .nil) (.cons (.ite (.var 7) (.ix (.var 7) (.cst (.int 0))) (.cst .none)) .nil)) .nil)) (.cons (.ret (.cst (.bool false))) .nil) .nil) [some (.d (flD fl)), some (.d (.str st)), x2, x3, none, none, some (.d (.str w)), some (.d (.list (strsD (dueN st w fl.moves)))), none, none, none, none] k = .nx [some (.d (flD fl)), some (.d (.str st)), x2, x3, none, none, some (.d (.str w)), some (.d (.list (strsD (dueN st w fl.moves)))), none, none, none, none] k := by
      unfold exe
      unfold ev
      rw [ec2, bind_ok]
      rfl
    unfold st_l1
    rw [exes_cons, s1, go_nx, exes_cons, s2, go_nx]
    rfl
theorem st_l2_run {x6 : Option SV} : ∀ (l : List (Option (List Str))) (x7 x9 x10 : Option SV), ∃ x7' x9' x10', forL (bindT (.nm 9)) (exes g st_l2) (l.map rolD) [some (.d (flD fl)), some (.d (.str st)), some (.d (tupS sm)), some (.d (.list (strsD (nmsOf fl)))), none, none, x6, x7, none, x9, x10, none] k = .nx [some (.d (flD fl)), some (.d (.str st)), some (.d (tupS sm)), some (.d (.list (strsD (nmsOf fl)))), none, none, x6, x7', none, x9', x10', none] k
  | [], x7, x9, x10 => ⟨x7, x9, x10, rfl⟩
  | rl :: l, x7, x9, x10 => by
    rw [List.map_cons]
    obtain ⟨y7, y9, y10, ih⟩ := st_l2_run (x6 := x6) l (some (.d (.tuple (strsD (movesOf st rl fl.moves))))) (some (.d (rolD rl))) (some (.d (.dict (fdD (waysF fl st rl)))))
    refine ⟨y7, y9, y10, forL_nx (ρ1 := [some (.d (flD fl)), some (.d (.str st)), some (.d (tupS sm)), some (.d (.list (strsD (nmsOf fl)))), none, none, x6, x7, none, some (.d (rolD rl)), x10, none]) rfl ?_ ih⟩
    have e3 := hg.ways fl st rl ho hst
    have e4 := hg.moves fl st rl ho.mfew
    have e5 := hg.mvs fl st rl
    have e6 := hg.reach fl st rl ho hst
    have sa := hg.same (.tuple (strsD (movesOf st rl fl.moves))) okS_tup
    have sb := hg.same (.tuple (strsD (reachN fl st rl))) okS_tup
    have ec4 : ev g st_c4 [some (.d (flD fl)), some (.d (.str st)), some (.d (tupS sm)), some (.d (.list (strsD (nmsOf fl)))), none, none, x6, x7, none, some (.d (rolD rl)), some (.d (.dict (fdD (waysF fl st rl)))), none] k = .ok (.list (strsD (movesOf st rl fl.moves)), k) := by
      have h := ev_compA (g := g) (own := [8]) (tg := .nm 8) (it := .lst (.call 4 (.cons (.var 0) (.cons (.var 1) (.cons (.var 9) .nil))) .nil)) (elt := .ix (.var 8) (.cst (.int 0))) (ρ0 := [some (.d (flD fl)), some (.d (.str st)), some (.d (tupS sm)), some (.d (.list (strsD (nmsOf fl)))), none, none, x6, x7, none, some (.d (rolD rl)), some (.d (.dict (fdD (waysF fl st rl)))), none]) (k := k)
        (hMoves st rl fl.moves) mvD (fun m => [some (.d (flD fl)), some (.d (.str st)), some (.d (tupS sm)), some (.d (.list (strsD (nmsOf fl)))), none, none, x6, x7, some (.d (mvD m)), some (.d (rolD rl)), some (.d (.dict (fdD (waysF fl st rl)))), none]) (fun m => .str m.word) rfl (by simp only [exes_cons, exes_nil, exe, ev, evs, evi, go_ok, go_nx, bind_ok, pure_ok, of_some, at_ok, List.getElem?_cons_succ, List.getElem?_cons_zero, List.set_cons_succ, List.set_cons_zero, putS, setSV, kdOf, anyTr, lawIn, isTr, trI, List.length_cons, List.length_nil, wipeOk, List.all_cons, List.all_nil, wipeR, Option.bind_some, isOmit, endOf, intOf, getL, getT, getK, parOk, parS, ne_eq, not_false_eq_true, reduceCtorEq, decide_false, decide_true, Bool.or_false, Bool.false_or, Bool.or_true, Bool.true_or, Bool.and_true, Bool.true_and, Bool.not_true, Bool.not_false, Bool.false_eq_true, if_true, if_false, ite_true, ite_false, if_pos, Nat.reduceLT, Nat.reduceAdd, ↓reduceIte, tst, truD, Bool.and_self, Bool.and_false, Bool.false_and, Nat.lt_add_one, Nat.zero_lt_succ, Nat.lt_irrefl, List.append_nil, List.cons_append, List.nil_append, e4]) (fun _ _ => rfl) (fun m _ => ⟨by simp [kdOf], by simp only [exes_cons, exes_nil, exe, ev, evs, evi, go_ok, go_nx, bind_ok, pure_ok, of_some, at_ok, List.getElem?_cons_succ, List.getElem?_cons_zero, List.set_cons_succ, List.set_cons_zero, putS, setSV, kdOf, anyTr, lawIn, isTr, trI, List.length_cons, List.length_nil, wipeOk, List.all_cons, List.all_nil, wipeR, Option.bind_some, isOmit, endOf, intOf, getL, getT, getK, parOk, parS, ne_eq, not_false_eq_true, reduceCtorEq, decide_false, decide_true, Bool.or_false, Bool.false_or, Bool.or_true, Bool.true_or, Bool.and_true, Bool.true_and, Bool.not_true, Bool.not_false, Bool.false_eq_true, if_true, if_false, ite_true, ite_false, if_pos, Nat.reduceLT, Nat.reduceAdd, ↓reduceIte, tst, truD, Bool.and_self, Bool.and_false, Bool.false_and, Nat.lt_add_one, Nat.zero_lt_succ, Nat.lt_irrefl, List.append_nil, List.cons_append, List.nil_append, mv_at.1]⟩)
      unfold st_c4
      rw [h, ← hMoves_words]
      unfold strsD
      rw [List.map_map]
      rfl
    have ec5 : ∀ x7, ev g st_c5 [some (.d (flD fl)), some (.d (.str st)), some (.d (tupS sm)), some (.d (.list (strsD (nmsOf fl)))), none, none, x6, x7, none, some (.d (rolD rl)), some (.d (.dict (fdD (waysF fl st rl)))), none] k = .ok (.list (strsD (reachN fl st rl)), k) := fun x7 => by
      refine ev_comp (g := g) (k := k) (nmsOf fl) .str (fun x => [some (.d (flD fl)), some (.d (.str st)), some (.d (tupS sm)), some (.d (.list (strsD (nmsOf fl)))), some (.d (.str x)), none, x6, x7, none, some (.d (rolD rl)), some (.d (.dict (fdD (waysF fl st rl)))), none]) (fun x => (wayN fl st x rl).isSome) .str rfl rfl (fun _ _ => rfl) (fun x _ => tstB ?_) (fun x _ _ => ⟨by simp [kdOf], rfl⟩)
      simp only [exes_cons, exes_nil, exe, ev, evs, evi, go_ok, go_nx, bind_ok, pure_ok, of_some, at_ok, List.getElem?_cons_succ, List.getElem?_cons_zero, List.set_cons_succ, List.set_cons_zero, putS, setSV, kdOf, anyTr, lawIn, isTr, trI, List.length_cons, List.length_nil, wipeOk, List.all_cons, List.all_nil, wipeR, Option.bind_some, isOmit, endOf, intOf, getL, getT, getK, parOk, parS, ne_eq, not_false_eq_true, reduceCtorEq, decide_false, decide_true, Bool.or_false, Bool.false_or, Bool.or_true, Bool.true_or, Bool.and_true, Bool.true_and, Bool.not_true, Bool.not_false, Bool.false_eq_true, if_true, if_false, ite_true, ite_false, if_pos, Nat.reduceLT, Nat.reduceAdd, ↓reduceIte, tst, truD, Bool.and_self, Bool.and_false, Bool.false_and, Nat.lt_add_one, Nat.zero_lt_succ, Nat.lt_irrefl, List.append_nil, List.cons_append, List.nil_append, fd_in']
      rfl
    have ec6 : ∀ x7, ev g st_c6 [some (.d (flD fl)), some (.d (.str st)), some (.d (tupS sm)), some (.d (.list (strsD (nmsOf fl)))), none, none, x6, x7, none, some (.d (rolD rl)), some (.d (.dict (fdD (waysF fl st rl)))), none] k = .ok (.list ((nmsOf fl).map fun _ => .bool true), k) := fun x7 => by
      refine ev_compA (g := g) (k := k) (nmsOf fl) .str (fun x => [some (.d (flD fl)), some (.d (.str st)), some (.d (tupS sm)), some (.d (.list (strsD (nmsOf fl)))), none, none, x6, x7, none, some (.d (rolD rl)), some (.d (.dict (fdD (waysF fl st rl)))), some (.d (.str x))]) (fun _ => .bool true) rfl rfl (fun _ _ => rfl) (fun x _ => ⟨by simp [kdOf], ?_⟩)
      have e7 := hg.way fl st x rl ho hst
      have sc := hg.same (pO (wayN fl st x rl)) okS_pO
      have em : mtD .get (.dict (fdD (waysF fl st rl))) [.str x, .none] = some (pO (wayN fl st x rl)) := fd_mt
      simp only [exes_cons, exes_nil, exe, ev, evs, evi, go_ok, go_nx, bind_ok, pure_ok, of_some, at_ok, List.getElem?_cons_succ, List.getElem?_cons_zero, List.set_cons_succ, List.set_cons_zero, putS, setSV, kdOf, anyTr, lawIn, isTr, trI, List.length_cons, List.length_nil, wipeOk, List.all_cons, List.all_nil, wipeR, Option.bind_some, isOmit, endOf, intOf, getL, getT, getK, parOk, parS, ne_eq, not_false_eq_true, reduceCtorEq, decide_false, decide_true, Bool.or_false, Bool.false_or, Bool.or_true, Bool.true_or, Bool.and_true, Bool.true_and, Bool.not_true, Bool.not_false, Bool.false_eq_true, if_true, if_false, ite_true, ite_false, if_pos, Nat.reduceLT, Nat.reduceAdd, ↓reduceIte, tst, truD, Bool.and_self, Bool.and_false, Bool.false_and, Nat.lt_add_one, Nat.zero_lt_succ, Nat.lt_irrefl, List.append_nil, List.cons_append, List.nil_append, e7, em, sc, rcv]
    have b1 : ∀ l, biD .tuple (.list l) = some (.tuple l) := fun _ => rfl
    have at6 := all_trues (l := nmsOf fl)
    simp only [exes_cons, exes_nil, exe, ev, evs, evi, go_ok, go_nx, bind_ok, pure_ok, of_some, at_ok, List.getElem?_cons_succ, List.getElem?_cons_zero, List.set_cons_succ, List.set_cons_zero, putS, setSV, kdOf, anyTr, lawIn, isTr, trI, List.length_cons, List.length_nil, wipeOk, List.all_cons, List.all_nil, wipeR, Option.bind_some, isOmit, endOf, intOf, getL, getT, getK, parOk, parS, ne_eq, not_false_eq_true, reduceCtorEq, decide_false, decide_true, Bool.or_false, Bool.false_or, Bool.or_true, Bool.true_or, Bool.and_true, Bool.true_and, Bool.not_true, Bool.not_false, Bool.false_eq_true, if_true, if_false, ite_true, ite_false, if_pos, Nat.reduceLT, Nat.reduceAdd, ↓reduceIte, tst, truD, Bool.and_self, Bool.and_false, Bool.false_and, Nat.lt_add_one, Nat.zero_lt_succ, Nat.lt_irrefl, List.append_nil, List.cons_append, List.nil_append, st_l2, e3, ec4, b1, e5, sa, e6, ec5, sb, ec6, at6]
theorem st_run : runD g 3 9 st_b [flD fl, .str st, tupS sm] = .ok (.bool true) := by
  refine runD_rt rfl rfl (k := 0) ?_
  show exes g st_b [some (.d (flD fl)), some (.d (.str st)), some (.d (tupS sm)), none, none, none, none, none, none, none, none, none] 0 = _
  have ec1 : ev g st_c1 [some (.d (flD fl)), some (.d (.str st)), some (.d (tupS sm)), none, none, none, none, none, none, none, none, none] 0 = .ok (.list (strsD (nmsOf fl)), 0) := by
    have h := ev_compA (g := g) (own := [4, 5]) (tg := .tp (.cons (.nm 4) (.cons (.nm 5) .nil))) (it := .tup (.ix (.var 0) (.cst (.int 0)))) (elt := .var 4) (ρ0 := [some (.d (flD fl)), some (.d (.str st)), some (.d (tupS sm)), none, none, none, none, none, none, none, none, none]) (k := 0)
      fl.states pairD (fun q => [some (.d (flD fl)), some (.d (.str st)), some (.d (tupS sm)), none, some (.d (.str q.1)), some (.d (.str q.2)), none, none, none, none, none, none]) (fun q => .str q.1) rfl (by simp only [exes_cons, exes_nil, exe, ev, evs, evi, go_ok, go_nx, bind_ok, pure_ok, of_some, at_ok, List.getElem?_cons_succ, List.getElem?_cons_zero, List.set_cons_succ, List.set_cons_zero, putS, setSV, kdOf, anyTr, lawIn, isTr, trI, List.length_cons, List.length_nil, wipeOk, List.all_cons, List.all_nil, wipeR, Option.bind_some, isOmit, endOf, intOf, getL, getT, getK, parOk, parS, ne_eq, not_false_eq_true, reduceCtorEq, decide_false, decide_true, Bool.or_false, Bool.false_or, Bool.or_true, Bool.true_or, Bool.and_true, Bool.true_and, Bool.not_true, Bool.not_false, Bool.false_eq_true, if_true, if_false, ite_true, ite_false, if_pos, Nat.reduceLT, Nat.reduceAdd, ↓reduceIte, tst, truD, Bool.and_self, Bool.and_false, Bool.false_and, Nat.lt_add_one, Nat.zero_lt_succ, Nat.lt_irrefl, List.append_nil, List.cons_append, List.nil_append, fl_at.1]) (fun _ _ => rfl) (fun q _ => ⟨by simp [kdOf], rfl⟩)
    unfold st_c1
    rw [h]
    unfold nmsOf strsD
    rw [List.map_map]
    rfl
  have ec2 : ev g st_c2 [some (.d (flD fl)), some (.d (.str st)), some (.d (tupS sm)), some (.d (.list (strsD (nmsOf fl)))), none, none, none, none, none, none, none, none] 0 = .ok (.list (strsD (sortsN fl st)), 0) := by
    have h := ev_comp (g := g) (own := [4, 5]) (tg := .tp (.cons (.nm 4) (.cons (.nm 5) .nil))) (it := .tup (.ix (.var 0) (.cst (.int 0)))) (c := .cmp .Eq (.var 4) (.var 1)) (elt := .var 5) (ρ0 := [some (.d (flD fl)), some (.d (.str st)), some (.d (tupS sm)), some (.d (.list (strsD (nmsOf fl)))), none, none, none, none, none, none, none, none]) (k := 0)
      fl.states pairD (fun q => [some (.d (flD fl)), some (.d (.str st)), some (.d (tupS sm)), some (.d (.list (strsD (nmsOf fl)))), some (.d (.str q.1)), some (.d (.str q.2)), none, none, none, none, none, none]) (fun q => decide (q.1 = st)) (fun q => .str q.2) rfl (by simp only [exes_cons, exes_nil, exe, ev, evs, evi, go_ok, go_nx, bind_ok, pure_ok, of_some, at_ok, List.getElem?_cons_succ, List.getElem?_cons_zero, List.set_cons_succ, List.set_cons_zero, putS, setSV, kdOf, anyTr, lawIn, isTr, trI, List.length_cons, List.length_nil, wipeOk, List.all_cons, List.all_nil, wipeR, Option.bind_some, isOmit, endOf, intOf, getL, getT, getK, parOk, parS, ne_eq, not_false_eq_true, reduceCtorEq, decide_false, decide_true, Bool.or_false, Bool.false_or, Bool.or_true, Bool.true_or, Bool.and_true, Bool.true_and, Bool.not_true, Bool.not_false, Bool.false_eq_true, if_true, if_false, ite_true, ite_false, if_pos, Nat.reduceLT, Nat.reduceAdd, ↓reduceIte, tst, truD, Bool.and_self, Bool.and_false, Bool.false_and, Nat.lt_add_one, Nat.zero_lt_succ, Nat.lt_irrefl, List.append_nil, List.cons_append, List.nil_append, fl_at.1]) (fun _ _ => rfl) (fun q _ => tstB (by simp only [exes_cons, exes_nil, exe, ev, evs, evi, go_ok, go_nx, bind_ok, pure_ok, of_some, at_ok, List.getElem?_cons_succ, List.getElem?_cons_zero, List.set_cons_succ, List.set_cons_zero, putS, setSV, kdOf, anyTr, lawIn, isTr, trI, List.length_cons, List.length_nil, wipeOk, List.all_cons, List.all_nil, wipeR, Option.bind_some, isOmit, endOf, intOf, getL, getT, getK, parOk, parS, ne_eq, not_false_eq_true, reduceCtorEq, decide_false, decide_true, Bool.or_false, Bool.false_or, Bool.or_true, Bool.true_or, Bool.and_true, Bool.true_and, Bool.not_true, Bool.not_false, Bool.false_eq_true, if_true, if_false, ite_true, ite_false, if_pos, Nat.reduceLT, Nat.reduceAdd, ↓reduceIte, tst, truD, Bool.and_self, Bool.and_false, Bool.false_and, Nat.lt_add_one, Nat.zero_lt_succ, Nat.lt_irrefl, List.append_nil, List.cons_append, List.nil_append, eqD_str])) (fun q _ _ => ⟨by simp [kdOf], rfl⟩)
    unfold st_c2
    rw [h]
    unfold sortsN strsD
    rw [List.map_map]
    rfl
  obtain ⟨r, hr⟩ := sortsN_ne hst
  have e1 := hg.sort fl st hst
  have s0 := hg.same (.str (sortN fl st)) rfl
  have ei : ixD (.list (strsD (sortsN fl st))) (.int 0) = some (.str (sortN fl st)) := by
    rw [hr]
    exact atI_zero
  obtain ⟨y6, y7, el1⟩ := st_l1_run hg (fl := fl) (st := st) (k := 0) (x2 := some (.d (tupS sm))) (x3 := some (.d (.list (strsD (nmsOf fl))))) ["go", "back", "end", "skip", "none"] none none
  obtain ⟨z7, z9, z10, el2⟩ := st_l2_run hg ho hst (sm := sm) (k := 0) (x6 := y6) [none, some sm] y7 none none
  have ec7 : ev g st_c7 [some (.d (flD fl)), some (.d (.str st)), some (.d (tupS sm)), some (.d (.list (strsD (nmsOf fl)))), none, none, y6, z7, none, z9, z10, none] 0 = .ok (.list ((nmsOf fl).map fun _ => .bool true), 0) := by
    refine ev_compA (g := g) (k := 0) (nmsOf fl) .str (fun x => [some (.d (flD fl)), some (.d (.str st)), some (.d (tupS sm)), some (.d (.list (strsD (nmsOf fl)))), none, none, y6, z7, none, z9, z10, some (.d (.str x))]) (fun _ => .bool true) rfl rfl (fun _ _ => rfl) (fun x _ => ⟨by simp [kdOf], ?_⟩)
    have e8 := hg.hleast fl st x ho hst
    have e9 := hg.least fl st x ho hst
    have sc := hg.same (pO (leastN fl st x)) okS_pO
    simp only [exes_cons, exes_nil, exe, ev, evs, evi, go_ok, go_nx, bind_ok, pure_ok, of_some, at_ok, List.getElem?_cons_succ, List.getElem?_cons_zero, List.set_cons_succ, List.set_cons_zero, putS, setSV, kdOf, anyTr, lawIn, isTr, trI, List.length_cons, List.length_nil, wipeOk, List.all_cons, List.all_nil, wipeR, Option.bind_some, isOmit, endOf, intOf, getL, getT, getK, parOk, parS, ne_eq, not_false_eq_true, reduceCtorEq, decide_false, decide_true, Bool.or_false, Bool.false_or, Bool.or_true, Bool.true_or, Bool.and_true, Bool.true_and, Bool.not_true, Bool.not_false, Bool.false_eq_true, if_true, if_false, ite_true, ite_false, if_pos, Nat.reduceLT, Nat.reduceAdd, ↓reduceIte, tst, truD, Bool.and_self, Bool.and_false, Bool.false_and, Nat.lt_add_one, Nat.zero_lt_succ, Nat.lt_irrefl, List.append_nil, List.cons_append, List.nil_append, e8, e9, sc]
  have s1 : exe g (.set 3 false st_c1) [some (.d (flD fl)), some (.d (.str st)), some (.d (tupS sm)), none, none, none, none, none, none, none, none, none] 0 = .nx [some (.d (flD fl)), some (.d (.str st)), some (.d (tupS sm)), some (.d (.list (strsD (nmsOf fl)))), none, none, none, none, none, none, none, none] 0 := by
    simp only [exes_cons, exes_nil, exe, ev, evs, evi, go_ok, go_nx, bind_ok, pure_ok, of_some, at_ok, List.getElem?_cons_succ, List.getElem?_cons_zero, List.set_cons_succ, List.set_cons_zero, putS, setSV, kdOf, anyTr, lawIn, isTr, trI, List.length_cons, List.length_nil, wipeOk, List.all_cons, List.all_nil, wipeR, Option.bind_some, isOmit, endOf, intOf, getL, getT, getK, parOk, parS, ne_eq, not_false_eq_true, reduceCtorEq, decide_false, decide_true, Bool.or_false, Bool.false_or, Bool.or_true, Bool.true_or, Bool.and_true, Bool.true_and, Bool.not_true, Bool.not_false, Bool.false_eq_true, if_true, if_false, ite_true, ite_false, if_pos, Nat.reduceLT, Nat.reduceAdd, ↓reduceIte, tst, truD, Bool.and_self, Bool.and_false, Bool.false_and, Nat.lt_add_one, Nat.zero_lt_succ, Nat.lt_irrefl, List.append_nil, List.cons_append, List.nil_append, ec1, k1]
  have s2 : exe g (.iff (.nt (.call 0 (.cons (.call 1 (.cons (.var 0) (.cons (.var 1) .nil)) .nil) (.cons (.ix st_c2 (.cst (.int 0))) .nil)) .nil)) (.cons (.ret (.cst (.bool false))) .nil) .nil) [some (.d (flD fl)), some (.d (.str st)), some (.d (tupS sm)), some (.d (.list (strsD (nmsOf fl)))), none, none, none, none, none, none, none, none] 0 = .nx [some (.d (flD fl)), some (.d (.str st)), some (.d (tupS sm)), some (.d (.list (strsD (nmsOf fl)))), none, none, none, none, none, none, none, none] 0 := by
    simp only [exes_cons, exes_nil, exe, ev, evs, evi, go_ok, go_nx, bind_ok, pure_ok, of_some, at_ok, List.getElem?_cons_succ, List.getElem?_cons_zero, List.set_cons_succ, List.set_cons_zero, putS, setSV, kdOf, anyTr, lawIn, isTr, trI, List.length_cons, List.length_nil, wipeOk, List.all_cons, List.all_nil, wipeR, Option.bind_some, isOmit, endOf, intOf, getL, getT, getK, parOk, parS, ne_eq, not_false_eq_true, reduceCtorEq, decide_false, decide_true, Bool.or_false, Bool.false_or, Bool.or_true, Bool.true_or, Bool.and_true, Bool.true_and, Bool.not_true, Bool.not_false, Bool.false_eq_true, if_true, if_false, ite_true, ite_false, if_pos, Nat.reduceLT, Nat.reduceAdd, ↓reduceIte, tst, truD, Bool.and_self, Bool.and_false, Bool.false_and, Nat.lt_add_one, Nat.zero_lt_succ, Nat.lt_irrefl, List.append_nil, List.cons_append, List.nil_append, e1, ec2, ei, s0]
  have s3 : exe g (.forr (.nm 6) (.tup (.tup (.cons (.cst (.str "go")) (.cons (.cst (.str "back")) (.cons (.cst (.str "end")) (.cons (.cst (.str "skip")) (.cons (.cst (.str "none")) .nil))))))) st_l1) [some (.d (flD fl)), some (.d (.str st)), some (.d (tupS sm)), some (.d (.list (strsD (nmsOf fl)))), none, none, none, none, none, none, none, none] 0 = .nx [some (.d (flD fl)), some (.d (.str st)), some (.d (tupS sm)), some (.d (.list (strsD (nmsOf fl)))), none, none, y6, y7, none, none, none, none] 0 := el1
  have s4 : exe g (.forr (.nm 9) (.tup (.tup (.cons (.cst .none) (.cons (.var 2) .nil)))) st_l2) [some (.d (flD fl)), some (.d (.str st)), some (.d (tupS sm)), some (.d (.list (strsD (nmsOf fl)))), none, none, y6, y7, none, none, none, none] 0 = .nx [some (.d (flD fl)), some (.d (.str st)), some (.d (tupS sm)), some (.d (.list (strsD (nmsOf fl)))), none, none, y6, z7, none, z9, z10, none] 0 := el2
  have at7 := all_trues (l := nmsOf fl)
  unfold st_b
  rw [exes_cons, s1, go_nx, exes_cons, s2, go_nx, exes_cons, s3, go_nx, exes_cons, s4, go_nx]
  simp only [exes_cons, exes_nil, exe, ev, evs, evi, go_ok, go_nx, bind_ok, pure_ok, of_some, at_ok, List.getElem?_cons_succ, List.getElem?_cons_zero, List.set_cons_succ, List.set_cons_zero, putS, setSV, kdOf, anyTr, lawIn, isTr, trI, List.length_cons, List.length_nil, wipeOk, List.all_cons, List.all_nil, wipeR, Option.bind_some, isOmit, endOf, intOf, getL, getT, getK, parOk, parS, ne_eq, not_false_eq_true, reduceCtorEq, decide_false, decide_true, Bool.or_false, Bool.false_or, Bool.or_true, Bool.true_or, Bool.and_true, Bool.true_and, Bool.not_true, Bool.not_false, Bool.false_eq_true, if_true, if_false, ite_true, ite_false, if_pos, Nat.reduceLT, Nat.reduceAdd, ↓reduceIte, tst, truD, Bool.and_self, Bool.and_false, Bool.false_and, Nat.lt_add_one, Nat.zero_lt_succ, Nat.lt_irrefl, List.append_nil, List.cons_append, List.nil_append, ec7, at7]
  rfl
end
end Y.N02

namespace Y.N02
open PySem PySem.W PySem.Spec PyProof.Rows L2
/-! ### the law -/
def law_c1 : E := (.comp [5] (.nm 5) (.tup (.tup (.cons (.cst (.str "boss")) (.cons (.cst (.str "dev")) (.cons (.cst (.str "guest")) .nil))))) (.cmp .Eq (.callT 1 (.cons (.cst (.int 2)) .nil)) (.cst (.int 0))) (.var 5))
def law_c2 : E := (.comp [6, 7] (.tp (.cons (.nm 6) (.cons (.nm 7) .nil))) (.tup (.ix (.var 3) (.cst (.int 0)))) (.nt (.call 0 (.cons (.var 3) (.cons (.var 6) (.cons (.var 4) .nil))) .nil)) (.var 6))
def law_c3 : E := (.comp [11, 12] (.tp (.cons (.nm 11) (.cons (.nm 12) .nil))) (.tup (.ix (.var 3) (.cst (.int 0)))) (.bop false (.cmp .Eq (.var 12) (.cst (.str "done"))) (.cmp .In (.var 11) (.call 1 (.cons (.var 3) (.cons (.var 6) (.cons (.var 8) .nil))) .nil))) (.var 11))
def law_l1 : Ss := (.cons (.set 10 false law_c3)
      (.cons (.set 9 false (.bin .add (.var 9) (.repL (.lst (.cons (.var 6) .nil)) (.bi .int (.cmp .Eq (.var 10) (.lst .nil))))))
      .nil))
def law_l2 : Ss := (.cons (.set 9 false (.lst .nil))
      (.cons (.forr (.tp (.cons (.nm 6) (.cons (.nm 7) .nil))) (.tup (.ix (.var 3) (.cst (.int 0)))) law_l1)
      (.cons (.iff (.nt (.call 2 (.cons (.call 3 (.cons (.var 3) .nil) (.cons (.var 8) .nil)) (.cons (.bi .tuple (.var 9)) .nil)) .nil)) (.cons (.ret (.cst (.bool false)))
      .nil) .nil)
      .nil)))
def law_l3 : Ss := (.cons (.set 3 false (.callT 0 .nil))
      (.cons (.set 4 false (.bi .tuple law_c1))
      (.cons (.iff law_c2 (.cons (.ret (.cst (.bool false)))
      .nil) .nil)
      (.cons (.forr (.nm 8) (.tup (.tup (.cons (.cst .none) (.cons (.var 4) .nil)))) law_l2)
      (.cons (.iff (.cmp .NotEq (.call 4 (.cons (.var 3) (.cons (.cst (.str "new")) .nil)) .nil) (.call 5 (.cons (.var 3) (.cons (.cst (.str "new")) .nil)) (.cons (.cst .none) .nil))) (.cons (.ret (.cst (.bool false)))
      .nil) .nil)
      (.cons (.iff (.cmp .NotEq (.call 6 (.cons (.var 3) .nil) .nil) (.call 3 (.cons (.var 3) .nil) (.cons (.cst .none) .nil))) (.cons (.ret (.cst (.bool false)))
      .nil) .nil)
      .nil))))))
def law_b : Ss :=
      (.cons (.forr (.nm 2) (.rng (.cst (.int 4))) law_l3)
      (.cons (.ret (.cst (.bool true)))
      .nil))

theorem kg1 {ρ : Rho} : kdOf ρ law_c1 = .fr := rfl
theorem kg3 {ρ : Rho} : kdOf ρ law_c3 = .fr := rfl
structure LawG (g : G) : Prop where
  holds : ∀ fl st sm, FlowOk fl → st ∈ nmsOf fl → g.fn 0 [flD fl, .str st, tupS sm] = .ok (.bool true)
  ways : HWaysT (g.fn 1)
  same : SameT 24 (g.fn 2)
  stuck : StuckT (g.fn 3)
  mvs0 : ∀ fl st, g.fn 4 [flD fl, .str st] = .ok (.tuple (strsD (movesOf st none fl.moves)))
  mvs : MvsT (g.fn 5)
  stuck0 : ∀ fl, FlowOk fl → g.fn 6 [flD fl] = .ok (.tuple (strsD (stuckN fl none)))
  drawn : ∀ d, d < 800 → ∃ fl d', FlowOk fl ∧ d' ≤ d + 150 ∧ g.fnT 0 [] (3 * d) = .ok (flD fl, 3 * d')
  draw : DrawsOk (g.fnT 1)
def hEnds (fl : Flow) (rl : Option (List Str)) (st : Str) : List Str := (fl.states.filter fun q => decide (q.2 = ("done" : Str)) && (wayN fl st q.1 rl).isSome).map (·.1)
theorem hEnds_empty {fl : Flow} {rl : Option (List Str)} {st : Str} : (hEnds fl rl st).isEmpty = stuckAt fl rl st := by
  rw [Bool.eq_iff_iff, List.isEmpty_iff, stuckAt_iff]
  unfold hEnds
  rw [List.map_eq_nil_iff, List.filter_eq_nil_iff]
  constructor
  · intro h x hx hn
    obtain ⟨q, hq, e⟩ := List.mem_map.mp hn
    rw [List.mem_filter] at hq
    refine h q hq.1 ?_
    rw [Bool.and_eq_true]
    refine ⟨hq.2, ?_⟩
    have e : q.1 = x := e
    rw [e]
    exact (List.mem_filter.mp hx).2
  · intro h q hq hn
    rw [Bool.and_eq_true] at hn
    exact h q.1 (List.mem_filter.mpr ⟨List.mem_map_of_mem hq, hn.2⟩) (List.mem_map_of_mem (List.mem_filter.mpr ⟨hq, hn.1⟩))
section
variable {g : G} (hl : LawG g) {fl : Flow} (ho : FlowOk fl) {sm : List Str} {k : Nat}
include hl ho
theorem g_l1 {rl : Option (List Str)} {x2 x5 x11 x12 : Option SV} (h11 : Junk x11) (h12 : Junk x12) : ∀ (l : List (Str × Str)) (acc : List Str) (x6 x7 x10 : Option SV), (∀ q ∈ l, q.1 ∈ nmsOf fl) → acc.length + l.length ≤ 1000 → Junk x6 → Junk x7 →
    ∃ x6' x7' x10', Junk x6' ∧ Junk x7' ∧ forL (bindT (.tp (.cons (.nm 6) (.cons (.nm 7) .nil)))) (exes g law_l1) (l.map pairD) [some .scr, some .town, x2, some (.d (flD fl)), some (.d (tupS sm)), x5, x6, x7, some (.d (rolD rl)), some (.d (.list (strsD (acc)))), x10, x11, x12] k = .nx [some .scr, some .town, x2, some (.d (flD fl)), some (.d (tupS sm)), x5, x6', x7', some (.d (rolD rl)), some (.d (.list (strsD (acc ++ (l.map (·.1)).filter (stuckAt fl rl))))), x10', x11, x12] k
  | [], acc, x6, x7, x10, _, _, j6, j7 => ⟨x6, x7, x10, j6, j7, by simp [forL]⟩
  | q :: l, acc, x6, x7, x10, hq, hn, j6, j7 => by
    rw [List.length_cons] at hn
    have hs : q.1 ∈ nmsOf fl := hq q (List.mem_cons_self ..)
    have hw := hl.ways fl q.1 rl ho hs
    have ec : ev g law_c3 [some .scr, some .town, x2, some (.d (flD fl)), some (.d (tupS sm)), x5, some (.d (.str q.1)), some (.d (.str q.2)), some (.d (rolD rl)), some (.d (.list (strsD (acc)))), x10, x11, x12] k = .ok (.list (strsD (hEnds fl rl q.1)), k) := by
      have h := ev_comp (g := g) (own := [11, 12]) (tg := .tp (.cons (.nm 11) (.cons (.nm 12) .nil))) (it := .tup (.ix (.var 3) (.cst (.int 0)))) (c := .bop false (.cmp .Eq (.var 12) (.cst (.str "done"))) (.cmp .In (.var 11) (.call 1 (.cons (.var 3) (.cons (.var 6) (.cons (.var 8) .nil))) .nil))) (elt := .var 11) (ρ0 := [some .scr, some .town, x2, some (.d (flD fl)), some (.d (tupS sm)), x5, some (.d (.str q.1)), some (.d (.str q.2)), some (.d (rolD rl)), some (.d (.list (strsD (acc)))), x10, x11, x12]) (k := k)
        fl.states pairD (fun o => [some .scr, some .town, x2, some (.d (flD fl)), some (.d (tupS sm)), x5, some (.d (.str q.1)), some (.d (.str q.2)), some (.d (rolD rl)), some (.d (.list (strsD (acc)))), x10, some (.d (.str o.1)), some (.d (.str o.2))]) (fun o => decide (o.2 = ("done" : Str)) && (wayN fl q.1 o.1 rl).isSome) (fun o => .str o.1) (wipe2 rfl h11 rfl h12) (by simp only [exes_cons, exes_nil, exe, ev, evs, evi, go_ok, go_nx, bind_ok, pure_ok, of_some, at_ok, List.getElem?_cons_succ, List.getElem?_cons_zero, List.set_cons_succ, List.set_cons_zero, putS, setSV, kdOf, anyTr, lawIn, isTr, trI, List.length_cons, List.length_nil, wipeOk, List.all_cons, List.all_nil, wipeR, Option.bind_some, isOmit, endOf, intOf, getL, getT, getK, parOk, parS, ne_eq, not_false_eq_true, reduceCtorEq, decide_false, decide_true, Bool.or_false, Bool.false_or, Bool.or_true, Bool.true_or, Bool.and_true, Bool.true_and, Bool.not_true, Bool.not_false, Bool.false_eq_true, if_true, if_false, ite_true, ite_false, if_pos, Nat.reduceLT, Nat.reduceAdd, ↓reduceIte, tst, truD, Bool.and_self, Bool.and_false, Bool.false_and, Nat.lt_add_one, Nat.zero_lt_succ, Nat.lt_irrefl, List.append_nil, List.cons_append, List.nil_append, fl_at.1]) (fun _ _ => rfl) (fun o _ => ?_) (fun o _ _ => ⟨by simp [kdOf], rfl⟩)
      · unfold law_c3
        rw [h]
        unfold hEnds strsD
        rw [List.map_map]
        rfl
      · refine tstB ?_
        by_cases e : o.2 = ("done" : Str)
        · simp only [exes_cons, exes_nil, exe, ev, evs, evi, go_ok, go_nx, bind_ok, pure_ok, of_some, at_ok, List.getElem?_cons_succ, List.getElem?_cons_zero, List.set_cons_succ, List.set_cons_zero, putS, setSV, kdOf, anyTr, lawIn, isTr, trI, List.length_cons, List.length_nil, wipeOk, List.all_cons, List.all_nil, wipeR, Option.bind_some, isOmit, endOf, intOf, getL, getT, getK, parOk, parS, ne_eq, not_false_eq_true, reduceCtorEq, decide_false, decide_true, Bool.or_false, Bool.false_or, Bool.or_true, Bool.true_or, Bool.and_true, Bool.true_and, Bool.not_true, Bool.not_false, Bool.false_eq_true, if_true, if_false, ite_true, ite_false, if_pos, Nat.reduceLT, Nat.reduceAdd, ↓reduceIte, tst, truD, Bool.and_self, Bool.and_false, Bool.false_and, Nat.lt_add_one, Nat.zero_lt_succ, Nat.lt_irrefl, List.append_nil, List.cons_append, List.nil_append, eqD_str, e, hw, fd_in']
          rfl
        · simp only [exes_cons, exes_nil, exe, ev, evs, evi, go_ok, go_nx, bind_ok, pure_ok, of_some, at_ok, List.getElem?_cons_succ, List.getElem?_cons_zero, List.set_cons_succ, List.set_cons_zero, putS, setSV, kdOf, anyTr, lawIn, isTr, trI, List.length_cons, List.length_nil, wipeOk, List.all_cons, List.all_nil, wipeR, Option.bind_some, isOmit, endOf, intOf, getL, getT, getK, parOk, parS, ne_eq, not_false_eq_true, reduceCtorEq, decide_false, decide_true, Bool.or_false, Bool.false_or, Bool.or_true, Bool.true_or, Bool.and_true, Bool.true_and, Bool.not_true, Bool.not_false, Bool.false_eq_true, if_true, if_false, ite_true, ite_false, if_pos, Nat.reduceLT, Nat.reduceAdd, ↓reduceIte, tst, truD, Bool.and_self, Bool.and_false, Bool.false_and, Nat.lt_add_one, Nat.zero_lt_succ, Nat.lt_irrefl, List.append_nil, List.cons_append, List.nil_append, eqD_str, e]
    have ez : cmpD .Eq (.list (strsD (hEnds fl rl q.1))) (.list []) = some (stuckAt fl rl q.1) := by
      rw [eqD_lstS, hEnds_empty]
    have er : replD (.list [.str q.1]) (.int (if stuckAt fl rl q.1 then 1 else 0)) = some (.list (strsD (if stuckAt fl rl q.1 then [q.1] else []))) := by
      cases stuckAt fl rl q.1 <;> rfl
    have ei : biD .int (.bool (stuckAt fl rl q.1)) = some (.int (if stuckAt fl rl q.1 then 1 else 0)) := rfl
    have ea : binD .add (.list (strsD acc)) (.list (strsD (if stuckAt fl rl q.1 then [q.1] else []))) = some (.list (strsD (acc ++ if stuckAt fl rl q.1 then [q.1] else []))) := by
      show (if lim _ = true then _ else _) = _
      rw [if_pos (lim_ok (by
        have : (strsD (if stuckAt fl rl q.1 then [q.1] else [])).length ≤ 1 := by
            cases stuckAt fl rl q.1
            · exact Nat.zero_le _
            · exact Nat.le_refl _
        unfold strsD at *
        rw [List.length_map]
        omega))]
      unfold strsD
      rw [List.map_append]
    have hf : acc ++ ((q :: l).map (·.1)).filter (stuckAt fl rl) = (acc ++ if stuckAt fl rl q.1 then [q.1] else []) ++ (l.map (·.1)).filter (stuckAt fl rl) := by
      rw [List.map_cons, List.filter_cons, List.append_assoc]
      cases stuckAt fl rl q.1 <;> rfl
    obtain ⟨y6, y7, y10, i6, i7, ih⟩ := g_l1 (rl := rl) (x2 := x2) (x5 := x5) h11 h12 l (acc ++ if stuckAt fl rl q.1 then [q.1] else []) (some (.d (.str q.1))) (some (.d (.str q.2))) (some (.d (.list (strsD (hEnds fl rl q.1))))) (fun o h => hq o (List.mem_cons_of_mem _ h)) (by
      have : (if stuckAt fl rl q.1 = true then [q.1] else []).length ≤ 1 := by
        cases stuckAt fl rl q.1
        · exact Nat.zero_le _
        · exact Nat.le_refl _
      rw [List.length_append]
      omega) junk_d junk_d
    refine ⟨y6, y7, y10, i6, i7, ?_⟩
    rw [List.map_cons, hf]
    refine forL_nx (ρ1 := [some .scr, some .town, x2, some (.d (flD fl)), some (.d (tupS sm)), x5, some (.d (.str q.1)), some (.d (.str q.2)), some (.d (rolD rl)), some (.d (.list (strsD (acc)))), x10, x11, x12]) rfl ?_ ih
    simp only [exes_cons, exes_nil, exe, ev, evs, evi, go_ok, go_nx, bind_ok, pure_ok, of_some, at_ok, List.getElem?_cons_succ, List.getElem?_cons_zero, List.set_cons_succ, List.set_cons_zero, putS, setSV, kdOf, anyTr, lawIn, isTr, trI, List.length_cons, List.length_nil, wipeOk, List.all_cons, List.all_nil, wipeR, Option.bind_some, isOmit, endOf, intOf, getL, getT, getK, parOk, parS, ne_eq, not_false_eq_true, reduceCtorEq, decide_false, decide_true, Bool.or_false, Bool.false_or, Bool.or_true, Bool.true_or, Bool.and_true, Bool.true_and, Bool.not_true, Bool.not_false, Bool.false_eq_true, if_true, if_false, ite_true, ite_false, if_pos, Nat.reduceLT, Nat.reduceAdd, ↓reduceIte, tst, truD, Bool.and_self, Bool.and_false, Bool.false_and, Nat.lt_add_one, Nat.zero_lt_succ, Nat.lt_irrefl, List.append_nil, List.cons_append, List.nil_append, law_l1, ec, kg3, ez, ei, er, ea, not_true_eq_false]
theorem g_l2 {x2 x5 x11 x12 : Option SV} (h11 : Junk x11) (h12 : Junk x12) : ∀ (l : List (Option (List Str))) (x6 x7 x8 x9 x10 : Option SV), Junk x6 → Junk x7 →
    ∃ x6' x7' x8' x9' x10', Junk x6' ∧ Junk x7' ∧ forL (bindT (.nm 8)) (exes g law_l2) (l.map rolD) [some .scr, some .town, x2, some (.d (flD fl)), some (.d (tupS sm)), x5, x6, x7, x8, x9, x10, x11, x12] k = .nx [some .scr, some .town, x2, some (.d (flD fl)), some (.d (tupS sm)), x5, x6', x7', x8', x9', x10', x11, x12] k
  | [], x6, x7, x8, x9, x10, j6, j7 => ⟨x6, x7, x8, x9, x10, j6, j7, rfl⟩
  | rl :: l, x6, x7, x8, x9, x10, j6, j7 => by
    obtain ⟨z6, z7, z10, u6, u7, e1⟩ := g_l1 hl ho (k := k) (sm := sm) (rl := rl) (x2 := x2) (x5 := x5) h11 h12 fl.states [] x6 x7 x10 (fun q hq => List.mem_map_of_mem hq) (by have := ho.few; simp; omega) j6 j7
    rw [List.nil_append] at e1
    have e1' : forL (bindT (.tp (.cons (.nm 6) (.cons (.nm 7) .nil)))) (exes g law_l1) (fl.states.map pairD) [some .scr, some .town, x2, some (.d (flD fl)), some (.d (tupS sm)), x5, x6, x7, some (.d (rolD rl)), some (.d (.list [])), x10, x11, x12] k = .nx [some .scr, some .town, x2, some (.d (flD fl)), some (.d (tupS sm)), x5, z6, z7, some (.d (rolD rl)), some (.d (.list (strsD (stuckN fl rl)))), z10, x11, x12] k := e1
    have es := hl.stuck fl rl ho
    have em := hl.same (.tuple (strsD (stuckN fl rl))) okS_tup
    have b1 : ∀ l, biD .tuple (.list l) = some (.tuple l) := fun _ => rfl
    obtain ⟨y6, y7, y8, y9, y10, i6, i7, ih⟩ := g_l2 (x2 := x2) (x5 := x5) h11 h12 l z6 z7 (some (.d (rolD rl))) (some (.d (.list (strsD (stuckN fl rl))))) z10 u6 u7
    refine ⟨y6, y7, y8, y9, y10, i6, i7, ?_⟩
    rw [List.map_cons]
    refine forL_nx (ρ1 := [some .scr, some .town, x2, some (.d (flD fl)), some (.d (tupS sm)), x5, x6, x7, some (.d (rolD rl)), x9, x10, x11, x12]) rfl ?_ ih
    simp only [exes_cons, exes_nil, exe, ev, evs, evi, go_ok, go_nx, bind_ok, pure_ok, of_some, at_ok, List.getElem?_cons_succ, List.getElem?_cons_zero, List.set_cons_succ, List.set_cons_zero, putS, setSV, kdOf, anyTr, lawIn, isTr, trI, List.length_cons, List.length_nil, wipeOk, List.all_cons, List.all_nil, wipeR, Option.bind_some, isOmit, endOf, intOf, getL, getT, getK, parOk, parS, ne_eq, not_false_eq_true, reduceCtorEq, decide_false, decide_true, Bool.or_false, Bool.false_or, Bool.or_true, Bool.true_or, Bool.and_true, Bool.true_and, Bool.not_true, Bool.not_false, Bool.false_eq_true, if_true, if_false, ite_true, ite_false, if_pos, Nat.reduceLT, Nat.reduceAdd, ↓reduceIte, tst, truD, Bool.and_self, Bool.and_false, Bool.false_and, Nat.lt_add_one, Nat.zero_lt_succ, Nat.lt_irrefl, List.append_nil, List.cons_append, List.nil_append, law_l2, fl_at.1, e1', es, b1, em]
theorem g_c2 {x2 x5 x6 x7 x8 x9 x10 x11 x12 : Option SV} (j6 : Junk x6) (j7 : Junk x7) : ev g law_c2 [some .scr, some .town, x2, some (.d (flD fl)), some (.d (tupS sm)), x5, x6, x7, x8, x9, x10, x11, x12] k = .ok (.list [], k) := by
  have h := ev_comp (g := g) (own := [6, 7]) (tg := .tp (.cons (.nm 6) (.cons (.nm 7) .nil))) (it := .tup (.ix (.var 3) (.cst (.int 0)))) (c := .nt (.call 0 (.cons (.var 3) (.cons (.var 6) (.cons (.var 4) .nil))) .nil)) (elt := .var 6) (ρ0 := [some .scr, some .town, x2, some (.d (flD fl)), some (.d (tupS sm)), x5, x6, x7, x8, x9, x10, x11, x12]) (k := k)
    fl.states pairD (fun q => [some .scr, some .town, x2, some (.d (flD fl)), some (.d (tupS sm)), x5, some (.d (.str q.1)), some (.d (.str q.2)), x8, x9, x10, x11, x12]) (fun _ => false) (fun _ => .none) (wipe2 rfl j6 rfl j7) (by simp only [exes_cons, exes_nil, exe, ev, evs, evi, go_ok, go_nx, bind_ok, pure_ok, of_some, at_ok, List.getElem?_cons_succ, List.getElem?_cons_zero, List.set_cons_succ, List.set_cons_zero, putS, setSV, kdOf, anyTr, lawIn, isTr, trI, List.length_cons, List.length_nil, wipeOk, List.all_cons, List.all_nil, wipeR, Option.bind_some, isOmit, endOf, intOf, getL, getT, getK, parOk, parS, ne_eq, not_false_eq_true, reduceCtorEq, decide_false, decide_true, Bool.or_false, Bool.false_or, Bool.or_true, Bool.true_or, Bool.and_true, Bool.true_and, Bool.not_true, Bool.not_false, Bool.false_eq_true, if_true, if_false, ite_true, ite_false, if_pos, Nat.reduceLT, Nat.reduceAdd, ↓reduceIte, tst, truD, Bool.and_self, Bool.and_false, Bool.false_and, Nat.lt_add_one, Nat.zero_lt_succ, Nat.lt_irrefl, List.append_nil, List.cons_append, List.nil_append, fl_at.1]) (fun _ _ => rfl) (fun q hq => ?_) (fun _ _ h => by cases h)
  · unfold law_c2
    rw [h, List.filter_eq_nil_iff.mpr (by simp)]
    rfl
  · have e := hl.holds fl q.1 sm ho (List.mem_map_of_mem hq)
    refine tstB ?_
    simp only [exes_cons, exes_nil, exe, ev, evs, evi, go_ok, go_nx, bind_ok, pure_ok, of_some, at_ok, List.getElem?_cons_succ, List.getElem?_cons_zero, List.set_cons_succ, List.set_cons_zero, putS, setSV, kdOf, anyTr, lawIn, isTr, trI, List.length_cons, List.length_nil, wipeOk, List.all_cons, List.all_nil, wipeR, Option.bind_some, isOmit, endOf, intOf, getL, getT, getK, parOk, parS, ne_eq, not_false_eq_true, reduceCtorEq, decide_false, decide_true, Bool.or_false, Bool.false_or, Bool.or_true, Bool.true_or, Bool.and_true, Bool.true_and, Bool.not_true, Bool.not_false, Bool.false_eq_true, if_true, if_false, ite_true, ite_false, if_pos, Nat.reduceLT, Nat.reduceAdd, ↓reduceIte, tst, truD, Bool.and_self, Bool.and_false, Bool.false_and, Nat.lt_add_one, Nat.zero_lt_succ, Nat.lt_irrefl, List.append_nil, List.cons_append, List.nil_append, e]
omit ho
theorem round_run {d : Nat} (hd : d < 700) {x2 x3 x4 x5 x6 x7 x8 x9 x10 x11 x12 : Option SV} (j5 : Junk x5) (j6 : Junk x6) (j7 : Junk x7) (j11 : Junk x11) (j12 : Junk x12) :
    ∃ d' x3' x4' x5' x6' x7' x8' x9' x10' x11' x12', d' ≤ d + 153 ∧ Junk x5' ∧ Junk x6' ∧ Junk x7' ∧ Junk x11' ∧ Junk x12' ∧ exes g law_l3 [some .scr, some .town, x2, x3, x4, x5, x6, x7, x8, x9, x10, x11, x12] (3 * d) = .nx [some .scr, some .town, x2, x3', x4', x5', x6', x7', x8', x9', x10', x11', x12'] (3 * d') := by
  obtain ⟨fl, d', ho, hd', e0⟩ := hl.drawn d (by omega)
  have ec1 : ∃ sm, ev g law_c1 [some .scr, some .town, x2, some (.d (flD fl)), x4, x5, x6, x7, x8, x9, x10, x11, x12] (3 * d') = .ok (.list (strsD sm), 3 * (d' + 3)) := by
    obtain ⟨part, e⟩ := drawn_comp (bnd := fun x => bindT (.nm 5) x [some .scr, some .town, x2, some (.d (flD fl)), x4, none, x6, x7, x8, x9, x10, x11, x12]) (t := fun ρ k => tstR (ev g (.cmp .Eq (.callT 1 (.cons (.cst (.int 2)) .nil)) (.cst (.int 0))) ρ k)) (elt := fun ρ k => if kdOf ρ (.var 5) = .tr then R.no else (ev g (.var 5) ρ k).nox)
      (ρ := fun s => [some .scr, some .town, x2, some (.d (flD fl)), x4, some (.d (.str s)), x6, x7, x8, x9, x10, x11, x12]) (fun _ => rfl) (fun s d h => by
        obtain ⟨m, m0, m1, e⟩ := hl.draw d (by omega) 2 (by decide)
        refine ⟨decide (m = 0), ?_⟩
        refine tstB ?_
        simp only [exes_cons, exes_nil, exe, ev, evs, evi, go_ok, go_nx, bind_ok, pure_ok, of_some, at_ok, List.getElem?_cons_succ, List.getElem?_cons_zero, List.set_cons_succ, List.set_cons_zero, putS, setSV, kdOf, anyTr, lawIn, isTr, trI, List.length_cons, List.length_nil, wipeOk, List.all_cons, List.all_nil, wipeR, Option.bind_some, isOmit, endOf, intOf, getL, getT, getK, parOk, parS, ne_eq, not_false_eq_true, reduceCtorEq, decide_false, decide_true, Bool.or_false, Bool.false_or, Bool.or_true, Bool.true_or, Bool.and_true, Bool.true_and, Bool.not_true, Bool.not_false, Bool.false_eq_true, if_true, if_false, ite_true, ite_false, if_pos, Nat.reduceLT, Nat.reduceAdd, ↓reduceIte, tst, truD, Bool.and_self, Bool.and_false, Bool.false_and, Nat.lt_add_one, Nat.zero_lt_succ, Nat.lt_irrefl, List.append_nil, List.cons_append, List.nil_append, e, eqD_int]) (fun _ _ => by simp only [exes_cons, exes_nil, exe, ev, evs, evi, go_ok, go_nx, bind_ok, pure_ok, of_some, at_ok, List.getElem?_cons_succ, List.getElem?_cons_zero, List.set_cons_succ, List.set_cons_zero, putS, setSV, kdOf, anyTr, lawIn, isTr, trI, List.length_cons, List.length_nil, wipeOk, List.all_cons, List.all_nil, wipeR, Option.bind_some, isOmit, endOf, intOf, getL, getT, getK, parOk, parS, ne_eq, not_false_eq_true, reduceCtorEq, decide_false, decide_true, Bool.or_false, Bool.false_or, Bool.or_true, Bool.true_or, Bool.and_true, Bool.true_and, Bool.not_true, Bool.not_false, Bool.false_eq_true, if_true, if_false, ite_true, ite_false, if_pos, Nat.reduceLT, Nat.reduceAdd, ↓reduceIte, tst, truD, Bool.and_self, Bool.and_false, Bool.false_and, Nat.lt_add_one, Nat.zero_lt_succ, Nat.lt_irrefl, List.append_nil, List.cons_append, List.nil_append, noxO]) roles3 d' (by show d' + 3 < 1000; omega)
    refine ⟨part, ?_⟩
    have e4 : evi g (.tup (.tup (.cons (.cst (.str "boss")) (.cons (.cst (.str "dev")) (.cons (.cst (.str "guest")) .nil))))) [some .scr, some .town, x2, some (.d (flD fl)), x4, x5, x6, x7, x8, x9, x10, x11, x12] (3 * d') = .ok (strsD roles3, 3 * d') := rfl
    unfold law_c1 ev
    rw [wipe1 (i := 5) (x := x5) rfl j5, e4, bind_ok]
    dsimp only
    rw [show wipeR [some .scr, some .town, x2, some (.d (flD fl)), x4, x5, x6, x7, x8, x9, x10, x11, x12] [5] = [some .scr, some .town, x2, some (.d (flD fl)), x4, none, x6, x7, x8, x9, x10, x11, x12] from rfl, e, bind_ok]
    rfl
  obtain ⟨sm, ec1⟩ := ec1
  have ec2 := g_c2 hl ho (sm := sm) (k := 3 * (d' + 3)) (x2 := x2) (x5 := x5) (x8 := x8) (x9 := x9) (x10 := x10) (x11 := x11) (x12 := x12) j6 j7
  obtain ⟨y6, y7, y8, y9, y10, i6, i7, e2⟩ := g_l2 hl ho (sm := sm) (k := 3 * (d' + 3)) (x2 := x2) (x5 := x5) j11 j12 [none, some sm] x6 x7 x8 x9 x10 j6 j7
  refine ⟨d' + 3, some (.d (flD fl)), some (.d (tupS sm)), x5, y6, y7, y8, y9, y10, x11, x12, by omega, j5, i6, i7, j11, j12, ?_⟩
  have b1 : biD .tuple (.list (strsD sm)) = some (tupS sm) := rfl
  have k1 : kdOf [some .scr, some .town, x2, some (.d (flD fl)), x4, x5, x6, x7, x8, x9, x10, x11, x12] (.bi .tuple law_c1) = .pl := rfl
  have s1 : exe g (.set 3 false (.callT 0 .nil)) [some .scr, some .town, x2, x3, x4, x5, x6, x7, x8, x9, x10, x11, x12] (3 * d) = .nx [some .scr, some .town, x2, some (.d (flD fl)), x4, x5, x6, x7, x8, x9, x10, x11, x12] (3 * d') := by
    simp only [exes_cons, exes_nil, exe, ev, evs, evi, go_ok, go_nx, bind_ok, pure_ok, of_some, at_ok, List.getElem?_cons_succ, List.getElem?_cons_zero, List.set_cons_succ, List.set_cons_zero, putS, setSV, kdOf, anyTr, lawIn, isTr, trI, List.length_cons, List.length_nil, wipeOk, List.all_cons, List.all_nil, wipeR, Option.bind_some, isOmit, endOf, intOf, getL, getT, getK, parOk, parS, ne_eq, not_false_eq_true, reduceCtorEq, decide_false, decide_true, Bool.or_false, Bool.false_or, Bool.or_true, Bool.true_or, Bool.and_true, Bool.true_and, Bool.not_true, Bool.not_false, Bool.false_eq_true, if_true, if_false, ite_true, ite_false, if_pos, Nat.reduceLT, Nat.reduceAdd, ↓reduceIte, tst, truD, Bool.and_self, Bool.and_false, Bool.false_and, Nat.lt_add_one, Nat.zero_lt_succ, Nat.lt_irrefl, List.append_nil, List.cons_append, List.nil_append, e0]
  have s2 : exe g (.set 4 false (.bi .tuple law_c1)) [some .scr, some .town, x2, some (.d (flD fl)), x4, x5, x6, x7, x8, x9, x10, x11, x12] (3 * d') = .nx [some .scr, some .town, x2, some (.d (flD fl)), some (.d (tupS sm)), x5, x6, x7, x8, x9, x10, x11, x12] (3 * (d' + 3)) := by
    simp only [exes_cons, exes_nil, exe, ev, evs, evi, go_ok, go_nx, bind_ok, pure_ok, of_some, at_ok, List.getElem?_cons_succ, List.getElem?_cons_zero, List.set_cons_succ, List.set_cons_zero, putS, setSV, kdOf, anyTr, lawIn, isTr, trI, List.length_cons, List.length_nil, wipeOk, List.all_cons, List.all_nil, wipeR, Option.bind_some, isOmit, endOf, intOf, getL, getT, getK, parOk, parS, ne_eq, not_false_eq_true, reduceCtorEq, decide_false, decide_true, Bool.or_false, Bool.false_or, Bool.or_true, Bool.true_or, Bool.and_true, Bool.true_and, Bool.not_true, Bool.not_false, Bool.false_eq_true, if_true, if_false, ite_true, ite_false, if_pos, Nat.reduceLT, Nat.reduceAdd, ↓reduceIte, tst, truD, Bool.and_self, Bool.and_false, Bool.false_and, Nat.lt_add_one, Nat.zero_lt_succ, Nat.lt_irrefl, List.append_nil, List.cons_append, List.nil_append, ec1, b1]
  have s4 : exe g (.forr (.nm 8) (.tup (.tup (.cons (.cst .none) (.cons (.var 4) .nil)))) law_l2) [some .scr, some .town, x2, some (.d (flD fl)), some (.d (tupS sm)), x5, x6, x7, x8, x9, x10, x11, x12] (3 * (d' + 3)) = .nx [some .scr, some .town, x2, some (.d (flD fl)), some (.d (tupS sm)), x5, y6, y7, y8, y9, y10, x11, x12] (3 * (d' + 3)) := e2
  have m0 := hl.mvs0 fl "new"
  have m1 : g.fn 5 [flD fl, .str "new", .none] = .ok (.tuple (strsD (movesOf "new" none fl.moves))) := hl.mvs fl "new" none
  have t0 := hl.stuck0 fl ho
  have t1 : g.fn 3 [flD fl, .none] = .ok (.tuple (strsD (stuckN fl none))) := hl.stuck fl none ho
  have ne : ∀ a : List Str, cmpD .NotEq (.tuple (strsD a)) (.tuple (strsD a)) = some false := fun a => by rw [neD_strs]; simp
  unfold law_l3
  rw [exes_cons, s1, go_nx, exes_cons, s2, go_nx]
  simp only [exes_cons, exes_nil, exe, ev, evs, evi, go_ok, go_nx, bind_ok, pure_ok, of_some, at_ok, List.getElem?_cons_succ, List.getElem?_cons_zero, List.set_cons_succ, List.set_cons_zero, putS, setSV, kdOf, anyTr, lawIn, isTr, trI, List.length_cons, List.length_nil, wipeOk, List.all_cons, List.all_nil, wipeR, Option.bind_some, isOmit, endOf, intOf, getL, getT, getK, parOk, parS, ne_eq, not_false_eq_true, reduceCtorEq, decide_false, decide_true, Bool.or_false, Bool.false_or, Bool.or_true, Bool.true_or, Bool.and_true, Bool.true_and, Bool.not_true, Bool.not_false, Bool.false_eq_true, if_true, if_false, ite_true, ite_false, if_pos, Nat.reduceLT, Nat.reduceAdd, ↓reduceIte, tst, truD, Bool.and_self, Bool.and_false, Bool.false_and, Nat.lt_add_one, Nat.zero_lt_succ, Nat.lt_irrefl, List.append_nil, List.cons_append, List.nil_append, ec2, List.isEmpty_nil]
  rw [show forL (bindT (.nm 8)) (exes g law_l2) [.none, tupS sm] [some .scr, some .town, x2, some (.d (flD fl)), some (.d (tupS sm)), x5, x6, x7, x8, x9, x10, x11, x12] (3 * (d' + 3)) = _ from e2]
  simp only [exes_cons, exes_nil, exe, ev, evs, evi, go_ok, go_nx, bind_ok, pure_ok, of_some, at_ok, List.getElem?_cons_succ, List.getElem?_cons_zero, List.set_cons_succ, List.set_cons_zero, putS, setSV, kdOf, anyTr, lawIn, isTr, trI, List.length_cons, List.length_nil, wipeOk, List.all_cons, List.all_nil, wipeR, Option.bind_some, isOmit, endOf, intOf, getL, getT, getK, parOk, parS, ne_eq, not_false_eq_true, reduceCtorEq, decide_false, decide_true, Bool.or_false, Bool.false_or, Bool.or_true, Bool.true_or, Bool.and_true, Bool.true_and, Bool.not_true, Bool.not_false, Bool.false_eq_true, if_true, if_false, ite_true, ite_false, if_pos, Nat.reduceLT, Nat.reduceAdd, ↓reduceIte, tst, truD, Bool.and_self, Bool.and_false, Bool.false_and, Nat.lt_add_one, Nat.zero_lt_succ, Nat.lt_irrefl, List.append_nil, List.cons_append, List.nil_append, m0, m1, t0, t1, ne]
theorem rounds_run : ∀ (l : List D) (d : Nat) (x2 x3 x4 x5 x6 x7 x8 x9 x10 x11 x12 : Option SV), d + 153 * l.length ≤ 700 → Junk x5 → Junk x6 → Junk x7 → Junk x11 → Junk x12 →
    ∃ ρ k', forL (bindT (.nm 2)) (exes g law_l3) l [some .scr, some .town, x2, x3, x4, x5, x6, x7, x8, x9, x10, x11, x12] (3 * d) = .nx ρ k'
  | [], d, x2, x3, x4, x5, x6, x7, x8, x9, x10, x11, x12, _, _, _, _, _, _ => ⟨_, _, rfl⟩
  | x :: l, d, x2, x3, x4, x5, x6, x7, x8, x9, x10, x11, x12, h, j5, j6, j7, j11, j12 => by
    rw [List.length_cons] at h
    obtain ⟨d', y3, y4, y5, y6, y7, y8, y9, y10, y11, y12, hd, i5, i6, i7, i11, i12, e⟩ := round_run hl (d := d) (by omega) (x2 := some (.d x)) (x3 := x3) (x4 := x4) (x8 := x8) (x9 := x9) (x10 := x10) j5 j6 j7 j11 j12
    obtain ⟨ρ, k', ih⟩ := rounds_run l d' (some (.d x)) y3 y4 y5 y6 y7 y8 y9 y10 y11 y12 (by omega) i5 i6 i7 i11 i12
    exact ⟨ρ, k', forL_nx (ρ1 := [some .scr, some .town, some (.d x), x3, x4, x5, x6, x7, x8, x9, x10, x11, x12]) rfl e ih⟩
theorem law_run : ∃ k, exes g law_b (some .scr :: some .town :: List.replicate 11 none) 0 = .rt (.bool true) k := by
  obtain ⟨ρ, k, e⟩ := rounds_run hl (rangeD 4) 0 none none none none none none none none none none none (by decide) junk_n junk_n junk_n junk_n junk_n
  refine ⟨k, ?_⟩
  have e2 : exe g (.forr (.nm 2) (.rng (.cst (.int 4))) law_l3) (some .scr :: some .town :: List.replicate 11 none) 0 = .nx ρ k := by
    unfold exe
    rw [evi_rng (n := 4) rfl (by decide) (by decide)]
    exact e
  unfold law_b
  rw [exes_cons, e2, go_nx]
  rfl
end
end Y.N02

namespace K02
open PySem PySem.W PySem.Spec PyProof.Rows L2 Y
/-! ### the text of the defs, in the little language -/
def topS (i : Nat) : Stmt := PySem.Challenge.pw_ticketyard_k02_flows_by_hand.main.body.getD i (.Pass ⟨0, 0, 0, 0⟩)
abbrev s_law_same : Stmt := topS 12
def n_law_same : List Str := ["_law_got", "_law_due", "_law_one", "_law_other"]
theorem sc_law_same : FnScope n_law_same ["_law_got", "_law_due"] (defScope s_law_same) := ⟨rfl, rfl, rfl, by decide +kernel, rfl, by decide +kernel, by decide +kernel⟩
def b_law_same : Ss :=
      (.cons (.iff (.cmp .Is (.var 1) (.cst .none)) (.cons (.ret (.cmp .Is (.var 0) (.cst .none)))
      .nil) .nil)
      (.cons (.iff (.isi .bool (.var 1)) (.cons (.ret (.bop false (.isi .bool (.var 0)) (.cmp .Eq (.var 0) (.var 1))))
      .nil) .nil)
      (.cons (.iff (.isi .tuple (.var 1)) (.cons (.iff (.bop true (.nt (.isi .tuple (.var 0))) (.cmp .NotEq (.bi .len (.var 0)) (.bi .len (.var 1)))) (.cons (.ret (.cst (.bool false)))
      .nil) .nil)
      (.cons (.ret (.bi .all (.comp [2, 3] (.tp (.cons (.nm 2) (.cons (.nm 3) .nil))) (.zip (.var 0) (.var 1)) (.cst (.bool true)) (.call 0 (.cons (.var 2) (.cons (.var 3) .nil)) .nil))))
      .nil)) .nil)
      (.cons (.iff (.isi .str (.var 1)) (.cons (.ret (.bop false (.isi .str (.var 0)) (.cmp .Eq (.var 0) (.var 1))))
      .nil) .nil)
      (.cons (.ret (.bop false (.isi .int (.var 0)) (.bop false (.nt (.isi .bool (.var 0))) (.cmp .Eq (.var 0) (.var 1)))))
      .nil)))))
def c_law_same : Ck := mkCk n_law_same [⟨"_law_same", 2, []⟩] [] [] ["all", "bool", "int", "isinstance", "len", "str", "tuple", "zip"]
theorem ck_law_same : ckSs c_law_same (defScope s_law_same) b_law_same (defBody s_law_same) = true := by decide +kernel
def sem_law_same (ns : List Int) : Nat → List D → R D
  | 0 => fun _ => .no
  | n + 1 => runD (mkG [(sem_law_same ns n)] [] [] (fun _ => 0) 1000 (twI ns) (scI ns)) 2 2 b_law_same
def g_law_same (ns : List Int) (n : Nat) : G := mkG [(sem_law_same ns n)] [] [] (fun _ => 0) 1000 (twI ns) (scI ns)
abbrev s_sort_of : Stmt := topS 1
def n_sort_of : List Str := ["flow", "state", "name", "sort"]
theorem sc_sort_of : FnScope n_sort_of ["flow", "state"] (defScope s_sort_of) := ⟨rfl, rfl, rfl, by decide +kernel, rfl, by decide +kernel, by decide +kernel⟩
def b_sort_of : Ss :=
      (.cons (.ret (.ix (.comp [2, 3] (.tp (.cons (.nm 2) (.cons (.nm 3) .nil))) (.tup (.ix (.var 0) (.cst (.int 0)))) (.cmp .Eq (.var 2) (.var 1)) (.var 3)) (.cst (.int 0))))
      .nil)
def c_sort_of : Ck := mkCk n_sort_of [] [] [] []
theorem ck_sort_of : ckSs c_sort_of (defScope s_sort_of) b_sort_of (defBody s_sort_of) = true := by decide +kernel
def g_sort_of (ns : List Int) : G := mkG [] [] [] (fun _ => 0) 1000 (twI ns) (scI ns)
def sem_sort_of (ns : List Int) : List D → R D := runD (g_sort_of ns) 2 2 b_sort_of
abbrev s_goal_of : Stmt := topS 4
def n_goal_of : List Str := ["flow", "state", "word", "name", "begin", "goal", "roles"]
theorem sc_goal_of : FnScope n_goal_of ["flow", "state", "word"] (defScope s_goal_of) := ⟨rfl, rfl, rfl, by decide +kernel, rfl, by decide +kernel, by decide +kernel⟩
def b_goal_of : Ss :=
      (.cons (.forr (.tp (.cons (.nm 3) (.cons (.nm 4) (.cons (.nm 5) (.cons (.nm 6) .nil))))) (.tup (.ix (.var 0) (.cst (.int 1)))) (.cons (.iff (.cmp .Eq (.tup (.cons (.var 3) (.cons (.var 4) .nil))) (.tup (.cons (.var 2) (.cons (.var 1) .nil)))) (.cons (.ret (.var 5))
      .nil) .nil)
      .nil))
      (.cons (.ret (.cst .none))
      .nil))
def c_goal_of : Ck := mkCk n_goal_of [] [] [] []
theorem ck_goal_of : ckSs c_goal_of (defScope s_goal_of) b_goal_of (defBody s_goal_of) = true := by decide +kernel
def g_goal_of (ns : List Int) : G := mkG [] [] [] (fun _ => 0) 1000 (twI ns) (scI ns)
def sem_goal_of (ns : List Int) : List D → R D := runD (g_goal_of ns) 3 4 b_goal_of
abbrev s_law_moves : Stmt := topS 16
def n_law_moves : List Str := ["_law_flow", "_law_state", "_law_part", "_law_found", "_law_move", "_law_role"]
theorem sc_law_moves : FnScope n_law_moves ["_law_flow", "_law_state", "_law_part"] (defScope s_law_moves) := ⟨rfl, rfl, rfl, by decide +kernel, rfl, by decide +kernel, by decide +kernel⟩
def b_law_moves : Ss :=
      (.cons (.set 3 true (.lst .nil))
      (.cons (.forr (.nm 4) (.tup (.ix (.var 0) (.cst (.int 1)))) (.cons (.iff (.bop false (.cmp .Eq (.ix (.var 4) (.cst (.int 1))) (.var 1)) (.bop true (.cmp .Is (.var 2) (.cst .none)) (.comp [5] (.nm 5) (.tup (.var 2)) (.cmp .In (.var 5) (.bi .list (.ix (.var 4) (.cst (.int 3))))) (.var 5)))) (.cons (.app 3 (.var 4))
      .nil) .nil)
      .nil))
      (.cons (.ret (.var 3))
      .nil)))
def c_law_moves : Ck := mkCk n_law_moves [] [] [] ["list"]
theorem ck_law_moves : ckSs c_law_moves (defScope s_law_moves) b_law_moves (defBody s_law_moves) = true := by decide +kernel
def g_law_moves (ns : List Int) : G := mkG [] [] [] (fun _ => 0) 1000 (twI ns) (scI ns)
def sem_law_moves (ns : List Int) : List D → R D := runD (g_law_moves ns) 3 3 b_law_moves
abbrev s_law_ways : Stmt := topS 17
def n_law_ways : List Str := ["_law_flow", "_law_state", "_law_part", "_law_found", "_law_rows", "_law_k", "_law_longer", "_law_here", "_law_words", "_law_move"]
theorem sc_law_ways : FnScope n_law_ways ["_law_flow", "_law_state", "_law_part"] (defScope s_law_ways) := ⟨rfl, rfl, rfl, by decide +kernel, rfl, by decide +kernel, by decide +kernel⟩
def b_law_ways : Ss :=
      (.cons (.par [(3, true), (4, true)] (.cons (.dct (.cons (.var 1) (.cons (.tup .nil) .nil))) (.cons (.lst (.cons (.tup (.cons (.var 1) (.cons (.tup .nil) .nil))) .nil)) .nil)))
      (.cons (.forr (.nm 5) (.rng (.bi .len (.ix (.var 0) (.cst (.int 0))))) (.cons (.set 6 false (.lst .nil))
      (.cons (.frz 4)
      (.cons (.forr (.tp (.cons (.nm 7) (.cons (.nm 8) .nil))) (.lst (.var 4)) (.cons (.set 6 false (.bin .add (.var 6) (.comp [9] (.nm 9) (.lst (.call 0 (.cons (.var 0) (.cons (.var 7) (.cons (.var 2) .nil))) .nil)) (.cst (.bool true)) (.tup (.cons (.ix (.var 9) (.cst (.int 2))) (.cons (.bin .add (.var 8) (.tup (.cons (.ix (.var 9) (.cst (.int 0))) .nil))) .nil))))))
      .nil))
      (.cons (.set 4 true (.lst .nil))
      (.cons (.forr (.tp (.cons (.nm 7) (.cons (.nm 8) .nil))) (.lst (.var 6)) (.cons (.iff (.cmp .NotIn (.var 7) (.var 3)) (.cons (.put 3 (.var 7) (.var 8))
      (.cons (.app 4 (.tup (.cons (.var 7) (.cons (.var 8) .nil))))
      .nil)) .nil)
      .nil))
      .nil))))))
      (.cons (.ret (.var 3))
      .nil)))
def c_law_ways : Ck := mkCk n_law_ways [⟨"_law_moves", 3, []⟩] [] [] ["len", "range"]
theorem ck_law_ways : ckSs c_law_ways (defScope s_law_ways) b_law_ways (defBody s_law_ways) = true := by decide +kernel
def g_law_ways (ns : List Int) : G := mkG [(sem_law_moves ns)] [] [] (fun _ => 0) 1000 (twI ns) (scI ns)
def sem_law_ways (ns : List Int) : List D → R D := runD (g_law_ways ns) 3 7 b_law_ways
abbrev s_may_do : Stmt := topS 2
def n_may_do : List Str := ["move", "roles", "role"]
theorem sc_may_do : FnScope n_may_do ["move", "roles"] (defScope s_may_do) := ⟨rfl, rfl, rfl, by decide +kernel, rfl, by decide +kernel, by decide +kernel⟩
def b_may_do : Ss :=
      (.cons (.ret (.bop true (.cmp .Is (.var 1) (.cst .none)) (.bi .any (.comp [2] (.nm 2) (.tup (.var 1)) (.cst (.bool true)) (.cmp .In (.var 2) (.ix (.var 0) (.cst (.int 3))))))))
      .nil)
def c_may_do : Ck := mkCk n_may_do [] [] [] ["any"]
theorem ck_may_do : ckSs c_may_do (defScope s_may_do) b_may_do (defBody s_may_do) = true := by decide +kernel
def g_may_do (ns : List Int) : G := mkG [] [] [] (fun _ => 0) 1000 (twI ns) (scI ns)
def sem_may_do (ns : List Int) : List D → R D := runD (g_may_do ns) 2 1 b_may_do
abbrev s_moves_from : Stmt := topS 3
def n_moves_from : List Str := ["flow", "state", "roles", "move"]
theorem sc_moves_from : FnScope n_moves_from ["flow", "state", "roles"] (defScope s_moves_from) := ⟨rfl, rfl, rfl, by decide +kernel, rfl, by decide +kernel, by decide +kernel⟩
def b_moves_from : Ss :=
      (.cons (.ret (.bi .tuple (.comp [3] (.nm 3) (.tup (.ix (.var 0) (.cst (.int 1)))) (.bop false (.cmp .Eq (.ix (.var 3) (.cst (.int 1))) (.var 1)) (.call 0 (.cons (.var 3) (.cons (.var 2) .nil)) .nil)) (.ix (.var 3) (.cst (.int 0))))))
      .nil)
def c_moves_from : Ck := mkCk n_moves_from [⟨"may_do", 2, []⟩] [] [] ["tuple"]
theorem ck_moves_from : ckSs c_moves_from (defScope s_moves_from) b_moves_from (defBody s_moves_from) = true := by decide +kernel
def g_moves_from (ns : List Int) : G := mkG [(sem_may_do ns)] [] [] (fun _ => 0) 1000 (twI ns) (scI ns)
def sem_moves_from (ns : List Int) : List D → R D := runD (g_moves_from ns) 3 1 b_moves_from
abbrev s_ways_from : Stmt := topS 5
def n_ways_from : List Str := ["flow", "state", "roles", "found", "row", "here", "move"]
theorem sc_ways_from : FnScope n_ways_from ["flow", "state", "roles"] (defScope s_ways_from) := ⟨rfl, rfl, rfl, by decide +kernel, rfl, by decide +kernel, by decide +kernel⟩
def b_ways_from : Ss :=
      (.cons (.par [(3, true), (4, true)] (.cons (.dct (.cons (.var 1) (.cons (.tup .nil) .nil))) (.cons (.lst (.cons (.var 1) .nil)) .nil)))
      (.cons (.whl (.var 4) (.cons (.star (.cons (.nm 5) .nil) 4 true (.var 4))
      (.cons (.forr (.nm 6) (.tup (.ix (.var 0) (.cst (.int 1)))) (.cons (.iff (.bop false (.cmp .Eq (.ix (.var 6) (.cst (.int 1))) (.var 5)) (.bop false (.cmp .NotIn (.ix (.var 6) (.cst (.int 2))) (.var 3)) (.call 0 (.cons (.var 6) (.cons (.var 2) .nil)) .nil))) (.cons (.put 3 (.ix (.var 6) (.cst (.int 2))) (.bin .add (.ix (.var 3) (.var 5)) (.tup (.cons (.ix (.var 6) (.cst (.int 0))) .nil))))
      (.cons (.app 4 (.ix (.var 6) (.cst (.int 2))))
      .nil)) .nil)
      .nil))
      .nil)))
      (.cons (.ret (.var 3))
      .nil)))
def c_ways_from : Ck := mkCk n_ways_from [⟨"may_do", 2, []⟩] [] [] []
theorem ck_ways_from : ckSs c_ways_from (defScope s_ways_from) b_ways_from (defBody s_ways_from) = true := by decide +kernel
def g_ways_from (ns : List Int) : G := mkG [(sem_may_do ns)] [] [] (fun _ => 0) 1000 (twI ns) (scI ns)
def sem_ways_from (ns : List Int) : List D → R D := runD (g_ways_from ns) 3 4 b_ways_from
abbrev s_reach : Stmt := topS 6
def n_reach : List Str := ["flow", "state", "roles", "found", "name", "sort"]
theorem sc_reach : FnScope n_reach ["flow", "state", "roles"] (defScope s_reach) := ⟨rfl, rfl, rfl, by decide +kernel, rfl, by decide +kernel, by decide +kernel⟩
def b_reach : Ss :=
      (.cons (.set 3 false (.call 0 (.cons (.var 0) (.cons (.var 1) (.cons (.var 2) .nil))) .nil))
      (.cons (.ret (.bi .tuple (.comp [4, 5] (.tp (.cons (.nm 4) (.cons (.nm 5) .nil))) (.tup (.ix (.var 0) (.cst (.int 0)))) (.cmp .In (.var 4) (.var 3)) (.var 4))))
      .nil))
def c_reach : Ck := mkCk n_reach [⟨"ways_from", 3, []⟩] [] [] ["tuple"]
theorem ck_reach : ckSs c_reach (defScope s_reach) b_reach (defBody s_reach) = true := by decide +kernel
def g_reach (ns : List Int) : G := mkG [(sem_ways_from ns)] [] [] (fun _ => 0) 1000 (twI ns) (scI ns)
def sem_reach (ns : List Int) : List D → R D := runD (g_reach ns) 3 3 b_reach
abbrev s_way : Stmt := topS 7
def n_way : List Str := ["flow", "state", "goal", "roles"]
theorem sc_way : FnScope n_way ["flow", "state", "goal", "roles"] (defScope s_way) := ⟨rfl, rfl, rfl, by decide +kernel, rfl, by decide +kernel, by decide +kernel⟩
def b_way : Ss :=
      (.cons (.ret (.mt .get (.call 0 (.cons (.var 0) (.cons (.var 1) (.cons (.var 3) .nil))) .nil) (.cons (.var 2) (.cons (.cst .none) .nil))))
      .nil)
def c_way : Ck := mkCk n_way [⟨"ways_from", 3, []⟩] [] [] []
theorem ck_way : ckSs c_way (defScope s_way) b_way (defBody s_way) = true := by decide +kernel
def g_way (ns : List Int) : G := mkG [(sem_ways_from ns)] [] [] (fun _ => 0) 1000 (twI ns) (scI ns)
def sem_way (ns : List Int) : List D → R D := runD (g_way ns) 4 0 b_way
abbrev s_law_least : Stmt := topS 18
def n_law_least : List Str := ["_law_flow", "_law_state", "_law_goal", "_law_names", "_law_move", "_law_sets", "_law_name", "_law_one", "_law_good"]
theorem sc_law_least : FnScope n_law_least ["_law_flow", "_law_state", "_law_goal"] (defScope s_law_least) := ⟨rfl, rfl, rfl, by decide +kernel, rfl, by decide +kernel, by decide +kernel⟩
def b_law_least : Ss :=
      (.cons (.set 3 false (.lst .nil))
      (.cons (.forr (.nm 4) (.tup (.ix (.var 0) (.cst (.int 1)))) (.cons (.set 3 false (.sset (.bin .add (.var 3) (.bi .list (.ix (.var 4) (.cst (.int 3)))))))
      .nil))
      (.cons (.set 5 false (.lst (.cons (.tup .nil) .nil)))
      (.cons (.forr (.nm 6) (.lst (.var 3)) (.cons (.set 5 false (.bin .add (.var 5) (.comp [7] (.nm 7) (.lst (.var 5)) (.cst (.bool true)) (.bin .add (.var 7) (.tup (.cons (.var 6) .nil))))))
      .nil))
      (.cons (.set 8 false (.comp [7] (.nm 7) (.lst (.var 5)) (.cmp .In (.var 2) (.lstd (.call 0 (.cons (.var 0) (.cons (.var 1) (.cons (.var 7) .nil))) .nil))) (.tup (.cons (.bi .len (.var 7)) (.cons (.var 7) .nil)))))
      (.cons (.ret (.ite (.var 8) (.ix (.mind (.var 8)) (.cst (.int 1))) (.cst .none)))
      .nil))))))
def c_law_least : Ck := mkCk n_law_least [⟨"_law_ways", 3, []⟩] [] [] ["len", "list", "min", "set", "sorted"]
theorem ck_law_least : ckSs c_law_least (defScope s_law_least) b_law_least (defBody s_law_least) = true := by decide +kernel
def g_law_least (ns : List Int) : G := mkG [(sem_law_ways ns)] [] [] (fun _ => 0) 1000 (twI ns) (scI ns)
def sem_law_least (ns : List Int) : List D → R D := runD (g_law_least ns) 3 6 b_law_least
abbrev s_all_roles : Stmt := topS 9
def n_all_roles : List Str := ["flow", "move", "role"]
theorem sc_all_roles : FnScope n_all_roles ["flow"] (defScope s_all_roles) := ⟨rfl, rfl, rfl, by decide +kernel, rfl, by decide +kernel, by decide +kernel⟩
def b_all_roles : Ss :=
      (.cons (.ret (.sset2 [1, 2] (.nm 1) (.tup (.ix (.var 0) (.cst (.int 1)))) (.cst (.bool true)) [2] (.nm 2) (.tup (.ix (.var 1) (.cst (.int 3)))) (.cst (.bool true)) (.var 2)))
      .nil)
def c_all_roles : Ck := mkCk n_all_roles [] [] [] ["sorted"]
theorem ck_all_roles : ckSs c_all_roles (defScope s_all_roles) b_all_roles (defBody s_all_roles) = true := by decide +kernel
def g_all_roles (ns : List Int) : G := mkG [] [] [] (fun _ => 0) 1000 (twI ns) (scI ns)
def sem_all_roles (ns : List Int) : List D → R D := runD (g_all_roles ns) 1 2 b_all_roles
abbrev s_least_roles : Stmt := topS 10
def n_least_roles : List Str := ["flow", "state", "goal", "names", "rows", "many", "roles", "name"]
theorem sc_least_roles : FnScope n_least_roles ["flow", "state", "goal"] (defScope s_least_roles) := ⟨rfl, rfl, rfl, by decide +kernel, rfl, by decide +kernel, by decide +kernel⟩
def b_least_roles : Ss :=
      (.cons (.par [(3, false), (4, false)] (.cons (.call 0 (.cons (.var 0) .nil) .nil) (.cons (.lst (.cons (.tup .nil) .nil)) .nil)))
      (.cons (.forr (.nm 5) (.rng (.bin .add (.bi .len (.var 3)) (.cst (.int 1)))) (.cons (.forr (.nm 6) (.lst (.var 4)) (.cons (.iff (.cmp .IsNot (.call 1 (.cons (.var 0) (.cons (.var 1) (.cons (.var 2) .nil))) (.cons (.var 6) .nil)) (.cst .none)) (.cons (.ret (.var 6))
      .nil) .nil)
      .nil))
      (.cons (.set 4 false (.comp2 [6, 7] (.nm 6) (.lst (.var 4)) (.cst (.bool true)) [7] (.nm 7) (.lst (.var 3)) (.bop true (.cmp .Eq (.var 6) (.tup .nil)) (.cmp .Gt (.var 7) (.ix (.var 6) (.neg (.cst (.int 1)))))) (.bin .add (.var 6) (.tup (.cons (.var 7) .nil)))))
      .nil)))
      (.cons (.ret (.cst .none))
      .nil)))
def c_least_roles : Ck := mkCk n_least_roles [⟨"all_roles", 1, []⟩, ⟨"way", 3, ["roles"]⟩] [] [] ["len", "range"]
theorem ck_least_roles : ckSs c_least_roles (defScope s_least_roles) b_least_roles (defBody s_least_roles) = true := by decide +kernel
def g_least_roles (ns : List Int) : G := mkG [(sem_all_roles ns), (sem_way ns)] [] [] (fun _ => 0) 1000 (twI ns) (scI ns)
def sem_least_roles (ns : List Int) : List D → R D := runD (g_least_roles ns) 3 5 b_least_roles
abbrev s_law_state_holds : Stmt := topS 19
def n_law_state_holds : List Str := ["_law_flow", "_law_state", "_law_some", "_law_names", "_law_name", "_law_sort", "_law_word", "_law_due", "_law_move", "_law_part", "_law_found", "_law_goal"]
theorem sc_law_state_holds : FnScope n_law_state_holds ["_law_flow", "_law_state", "_law_some"] (defScope s_law_state_holds) := ⟨rfl, rfl, rfl, by decide +kernel, rfl, by decide +kernel, by decide +kernel⟩
def b_law_state_holds : Ss :=
      (.cons (.set 3 false (.comp [4, 5] (.tp (.cons (.nm 4) (.cons (.nm 5) .nil))) (.tup (.ix (.var 0) (.cst (.int 0)))) (.cst (.bool true)) (.var 4)))
      (.cons (.iff (.nt (.call 0 (.cons (.call 1 (.cons (.var 0) (.cons (.var 1) .nil)) .nil) (.cons (.ix (.comp [4, 5] (.tp (.cons (.nm 4) (.cons (.nm 5) .nil))) (.tup (.ix (.var 0) (.cst (.int 0)))) (.cmp .Eq (.var 4) (.var 1)) (.var 5)) (.cst (.int 0))) .nil)) .nil)) (.cons (.ret (.cst (.bool false)))
      .nil) .nil)
      (.cons (.forr (.nm 6) (.tup (.tup (.cons (.cst (.str "go")) (.cons (.cst (.str "back")) (.cons (.cst (.str "end")) (.cons (.cst (.str "skip")) (.cons (.cst (.str "none")) .nil))))))) (.cons (.set 7 false (.comp [8] (.nm 8) (.tup (.ix (.var 0) (.cst (.int 1)))) (.bop false (.cmp .Eq (.ix (.var 8) (.cst (.int 0))) (.var 6)) (.cmp .Eq (.ix (.var 8) (.cst (.int 1))) (.var 1))) (.ix (.var 8) (.cst (.int 2)))))
      (.cons (.iff (.nt (.call 0 (.cons (.call 2 (.cons (.var 0) (.cons (.var 1) (.cons (.var 6) .nil))) .nil) (.cons (.ite (.var 7) (.ix (.var 7) (.cst (.int 0))) (.cst .none)) .nil)) .nil)) (.cons (.ret (.cst (.bool false)))
      .nil) .nil)
      .nil)))
      (.cons (.forr (.nm 9) (.tup (.tup (.cons (.cst .none) (.cons (.var 2) .nil)))) (.cons (.set 10 false (.call 3 (.cons (.var 0) (.cons (.var 1) (.cons (.var 9) .nil))) .nil))
      (.cons (.set 7 false (.bi .tuple (.comp [8] (.nm 8) (.lst (.call 4 (.cons (.var 0) (.cons (.var 1) (.cons (.var 9) .nil))) .nil)) (.cst (.bool true)) (.ix (.var 8) (.cst (.int 0))))))
      (.cons (.iff (.nt (.call 0 (.cons (.call 5 (.cons (.var 0) (.cons (.var 1) .nil)) (.cons (.var 9) .nil)) (.cons (.var 7) .nil)) .nil)) (.cons (.ret (.cst (.bool false)))
      .nil) .nil)
      (.cons (.iff (.nt (.call 0 (.cons (.call 6 (.cons (.var 0) (.cons (.var 1) .nil)) (.cons (.var 9) .nil)) (.cons (.bi .tuple (.comp [4] (.nm 4) (.lst (.var 3)) (.cmp .In (.var 4) (.var 10)) (.var 4))) .nil)) .nil)) (.cons (.ret (.cst (.bool false)))
      .nil) .nil)
      (.cons (.iff (.nt (.bi .all (.comp [11] (.nm 11) (.lst (.var 3)) (.cst (.bool true)) (.call 0 (.cons (.call 7 (.cons (.var 0) (.cons (.var 1) (.cons (.var 11) .nil))) (.cons (.var 9) .nil)) (.cons (.mt .get (.var 10) (.cons (.var 11) (.cons (.cst .none) .nil))) .nil)) .nil)))) (.cons (.ret (.cst (.bool false)))
      .nil) .nil)
      .nil))))))
      (.cons (.ret (.bi .all (.comp [11] (.nm 11) (.lst (.var 3)) (.cst (.bool true)) (.call 0 (.cons (.call 9 (.cons (.var 0) (.cons (.var 1) (.cons (.var 11) .nil))) .nil) (.cons (.call 8 (.cons (.var 0) (.cons (.var 1) (.cons (.var 11) .nil))) .nil) .nil)) .nil))))
      .nil)))))
def c_law_state_holds : Ck := mkCk n_law_state_holds [⟨"_law_same", 2, []⟩, ⟨"sort_of", 2, []⟩, ⟨"goal_of", 3, []⟩, ⟨"_law_ways", 3, []⟩, ⟨"_law_moves", 3, []⟩, ⟨"moves_from", 2, ["roles"]⟩, ⟨"reach", 2, ["roles"]⟩, ⟨"way", 3, ["roles"]⟩, ⟨"_law_least", 3, []⟩, ⟨"least_roles", 3, []⟩] [] [] ["all", "tuple"]
theorem ck_law_state_holds : ckSs c_law_state_holds (defScope s_law_state_holds) b_law_state_holds (defBody s_law_state_holds) = true := by decide +kernel
def g_law_state_holds (ns : List Int) : G := mkG [(sem_law_same ns 24), (sem_sort_of ns), (sem_goal_of ns), (sem_law_ways ns), (sem_law_moves ns), (sem_moves_from ns), (sem_reach ns), (sem_way ns), (sem_law_least ns), (sem_least_roles ns)] [] [] (fun _ => 0) 1000 (twI ns) (scI ns)
def sem_law_state_holds (ns : List Int) : List D → R D := runD (g_law_state_holds ns) 3 9 b_law_state_holds
abbrev s_stuck : Stmt := topS 8
def n_stuck : List Str := ["flow", "roles", "ends", "name", "sort", "found", "one"]
theorem sc_stuck : FnScope n_stuck ["flow", "roles"] (defScope s_stuck) := ⟨rfl, rfl, rfl, by decide +kernel, rfl, by decide +kernel, by decide +kernel⟩
def b_stuck : Ss :=
      (.cons (.set 2 false (.comp [3, 4] (.tp (.cons (.nm 3) (.cons (.nm 4) .nil))) (.tup (.ix (.var 0) (.cst (.int 0)))) (.cmp .Eq (.var 4) (.cst (.str "done"))) (.var 3)))
      (.cons (.set 5 true (.lst .nil))
      (.cons (.forr (.tp (.cons (.nm 3) (.cons (.nm 4) .nil))) (.tup (.ix (.var 0) (.cst (.int 0)))) (.cons (.iff (.nt (.bi .any (.comp [6] (.nm 6) (.tup (.call 0 (.cons (.var 0) (.cons (.var 3) .nil)) (.cons (.var 1) .nil))) (.cst (.bool true)) (.cmp .In (.var 6) (.var 2))))) (.cons (.app 5 (.var 3))
      .nil) .nil)
      .nil))
      (.cons (.ret (.bi .tuple (.var 5)))
      .nil))))
def c_stuck : Ck := mkCk n_stuck [⟨"reach", 2, ["roles"]⟩] [] [] ["any", "tuple"]
theorem ck_stuck : ckSs c_stuck (defScope s_stuck) b_stuck (defBody s_stuck) = true := by decide +kernel
def g_stuck (ns : List Int) : G := mkG [(sem_reach ns)] [] [] (fun _ => 0) 1000 (twI ns) (scI ns)
def sem_stuck (ns : List Int) : List D → R D := runD (g_stuck ns) 2 5 b_stuck
abbrev s_law_draw : Stmt := topS 13
def n_law_draw : List Str := ["_law_script", "_law_town", "_law_many", "_law_cell", "_law_k", "_law_digits", "_law_number", "_law_more"]
theorem sc_law_draw : FnScope n_law_draw ["_law_script", "_law_town", "_law_many"] (defScope s_law_draw) := ⟨rfl, rfl, rfl, by decide +kernel, rfl, by decide +kernel, by decide +kernel⟩
def b_law_draw : Ss :=
      (.cons (.tka (.bi .max (.bin .add (.comp [3] (.nm 3) (.lst (.var 0)) (.cst (.bool true)) (.bi .abs (.var 3))) (.lst (.cons (.cst (.int 0)) .nil)))))
      (.cons .tkb
      (.cons (.set 4 false .twl)
      (.cons (.set 3 false (.ite (.var 0) (.ix (.var 0) (.bin .mod (.var 4) (.bi .len (.var 0)))) (.cst (.int 0))))
      (.cons (.set 5 false (.twm 65536))
      (.cons (.tkc 65536)
      (.cons (.set 6 false (.bin .mod (.bin .add (.bin .add (.var 3) (.bin .mul (.cst (.int 40503)) (.var 5))) (.bin .mul (.cst (.int 104729)) (.var 4))) (.cst (.int 4294967291))))
      (.cons (.set 6 false (.bin .mod (.bin .mul (.bin .mod (.bin .mul (.var 6) (.var 6)) (.cst (.int 4294967279))) (.cst (.int 48271))) (.cst (.int 4294967291))))
      (.cons (.set 7 false (.bin .mod (.bin .mul (.bin .mod (.bin .mul (.var 6) (.var 6)) (.cst (.int 4294967279))) (.cst (.int 69621))) (.cst (.int 4294967291))))
      (.cons (.ret (.bin .mod (.bin .add (.bin .mul (.bin .fdiv (.var 6) (.cst (.int 64))) (.cst (.int 67108864))) (.bin .fdiv (.var 7) (.cst (.int 64)))) (.var 2)))
      .nil))))))))))
def c_law_draw : Ck := mkCk n_law_draw [] [] [] ["abs", "len", "max"]
theorem ck_law_draw : ckSs c_law_draw (defScope s_law_draw) b_law_draw (defBody s_law_draw) = true := by decide +kernel
def g_law_draw (ns : List Int) : G := mkG [] [] [] (fun _ => 0) 1000 (twI ns) (scI ns)
def semT_law_draw (ns : List Int) : List D → Nat → R (D × Nat) := runT (g_law_draw ns) 1 5 b_law_draw
abbrev s_law_pick : Stmt := topS 14
def n_law_pick : List Str := ["_law_script", "_law_town", "_law_some"]
theorem sc_law_pick : FnScope n_law_pick ["_law_script", "_law_town", "_law_some"] (defScope s_law_pick) := ⟨rfl, rfl, rfl, by decide +kernel, rfl, by decide +kernel, by decide +kernel⟩
def b_law_pick : Ss :=
      (.cons (.ret (.ix (.var 2) (.callT 0 (.cons (.bi .len (.var 2)) .nil))))
      .nil)
def c_law_pick : Ck := mkCk n_law_pick [] ["_law_draw"] [] ["len"]
theorem ck_law_pick : ckSs c_law_pick (defScope s_law_pick) b_law_pick (defBody s_law_pick) = true := by decide +kernel
def g_law_pick (ns : List Int) : G := mkG [] [(semT_law_draw ns)] [] (fun _ => 0) 1000 (twI ns) (scI ns)
def semT_law_pick (ns : List Int) : List D → Nat → R (D × Nat) := runT (g_law_pick ns) 1 0 b_law_pick
abbrev s_law_drawn_flow : Stmt := topS 15
def n_law_drawn_flow : List Str := ["_law_script", "_law_town", "_law_names", "_law_states", "_law_name", "_law_moves_here", "_law_used", "_law_k", "_law_word", "_law_state", "_law_part", "_law_role"]
theorem sc_law_drawn_flow : FnScope n_law_drawn_flow ["_law_script", "_law_town"] (defScope s_law_drawn_flow) := ⟨rfl, rfl, rfl, by decide +kernel, rfl, by decide +kernel, by decide +kernel⟩
def b_law_drawn_flow : Ss :=
      (.cons (.set 2 false (.sl (.lst (.cons (.cst (.str "new")) (.cons (.cst (.str "ready")) (.cons (.cst (.str "doing")) (.cons (.cst (.str "review")) (.cons (.cst (.str "closed")) (.cons (.cst (.str "void")) .nil))))))) .omit (.bin .add (.cst (.int 1)) (.callT 0 (.cons (.cst (.int 6)) .nil)))))
      (.cons (.set 3 true (.lst (.cons (.tup (.cons (.cst (.str "new")) (.cons (.callT 1 (.cons (.lst (.cons (.cst (.str "open")) (.cons (.cst (.str "open")) (.cons (.cst (.str "doing")) .nil)))) .nil)) .nil))) .nil)))
      (.cons (.forr (.nm 4) (.lst (.sl (.var 2) (.cst (.int 1)) .omit)) (.cons (.app 3 (.tup (.cons (.var 4) (.cons (.callT 1 (.cons (.lst (.cons (.cst (.str "open")) (.cons (.cst (.str "doing")) (.cons (.cst (.str "done")) (.cons (.cst (.str "done")) .nil))))) .nil)) .nil))))
      .nil))
      (.cons (.par [(5, true), (6, true)] (.cons (.lst .nil) (.cons (.lst .nil) .nil)))
      (.cons (.forr (.nm 7) (.rng (.callT 0 (.cons (.bin .add (.bin .mul (.cst (.int 3)) (.bi .len (.var 2))) (.cst (.int 1))) .nil))) (.cons (.par [(8, false), (9, false)] (.cons (.callT 1 (.cons (.lst (.cons (.cst (.str "go")) (.cons (.cst (.str "back")) (.cons (.cst (.str "end")) (.cons (.cst (.str "skip")) .nil))))) .nil)) (.cons (.callT 1 (.cons (.var 2) .nil)) .nil)))
      (.cons (.set 10 false (.comp [11] (.nm 11) (.tup (.tup (.cons (.cst (.str "boss")) (.cons (.cst (.str "dev")) (.cons (.cst (.str "guest")) .nil))))) (.cmp .Eq (.callT 0 (.cons (.cst (.int 2)) .nil)) (.cst (.int 0))) (.var 11)))
      (.cons (.iff (.cmp .NotIn (.tup (.cons (.var 8) (.cons (.var 9) .nil))) (.var 6)) (.cons (.app 6 (.tup (.cons (.var 8) (.cons (.var 9) .nil))))
      (.cons (.app 5 (.tup (.cons (.var 8) (.cons (.var 9) (.cons (.callT 1 (.cons (.var 2) .nil)) (.cons (.bi .tuple (.bop true (.var 10) (.lst (.cons (.cst (.str "dev")) .nil)))) .nil))))))
      .nil)) .nil)
      .nil))))
      (.cons (.ret (.tup (.cons (.bi .tuple (.var 3)) (.cons (.bi .tuple (.var 5)) .nil))))
      .nil))))))
def c_law_drawn_flow : Ck := mkCk n_law_drawn_flow [] ["_law_draw", "_law_pick"] [] ["len", "range", "tuple"]
theorem ck_law_drawn_flow : ckSs c_law_drawn_flow (defScope s_law_drawn_flow) b_law_drawn_flow (defBody s_law_drawn_flow) = true := by decide +kernel
def g_law_drawn_flow (ns : List Int) : G := mkG [] [(semT_law_draw ns), (semT_law_pick ns)] [] (fun _ => 0) 1000 (twI ns) (scI ns)
def semT_law_drawn_flow (ns : List Int) : List D → Nat → R (D × Nat) := runT (g_law_drawn_flow ns) 0 10 b_law_drawn_flow
abbrev s_law : Stmt := topS 20
def n_law : List Str := ["_law_script", "_law_town", "_law_k", "_law_flow", "_law_some", "_law_role", "_law_name", "_law_sort", "_law_part", "_law_due", "_law_ends", "_law_one", "_law_its"]
theorem sc_law : FnScope n_law ["_law_script"] (defScope s_law) := ⟨rfl, rfl, rfl, by decide +kernel, rfl, by decide +kernel, by decide +kernel⟩
def b_law : Ss :=
      (.cons (.forr (.nm 2) (.rng (.cst (.int 4))) (.cons (.set 3 false (.callT 0 .nil))
      (.cons (.set 4 false (.bi .tuple (.comp [5] (.nm 5) (.tup (.tup (.cons (.cst (.str "boss")) (.cons (.cst (.str "dev")) (.cons (.cst (.str "guest")) .nil))))) (.cmp .Eq (.callT 1 (.cons (.cst (.int 2)) .nil)) (.cst (.int 0))) (.var 5))))
      (.cons (.iff (.comp [6, 7] (.tp (.cons (.nm 6) (.cons (.nm 7) .nil))) (.tup (.ix (.var 3) (.cst (.int 0)))) (.nt (.call 0 (.cons (.var 3) (.cons (.var 6) (.cons (.var 4) .nil))) .nil)) (.var 6)) (.cons (.ret (.cst (.bool false)))
      .nil) .nil)
      (.cons (.forr (.nm 8) (.tup (.tup (.cons (.cst .none) (.cons (.var 4) .nil)))) (.cons (.set 9 false (.lst .nil))
      (.cons (.forr (.tp (.cons (.nm 6) (.cons (.nm 7) .nil))) (.tup (.ix (.var 3) (.cst (.int 0)))) (.cons (.set 10 false (.comp [11, 12] (.tp (.cons (.nm 11) (.cons (.nm 12) .nil))) (.tup (.ix (.var 3) (.cst (.int 0)))) (.bop false (.cmp .Eq (.var 12) (.cst (.str "done"))) (.cmp .In (.var 11) (.call 1 (.cons (.var 3) (.cons (.var 6) (.cons (.var 8) .nil))) .nil))) (.var 11)))
      (.cons (.set 9 false (.bin .add (.var 9) (.repL (.lst (.cons (.var 6) .nil)) (.bi .int (.cmp .Eq (.var 10) (.lst .nil))))))
      .nil)))
      (.cons (.iff (.nt (.call 2 (.cons (.call 3 (.cons (.var 3) .nil) (.cons (.var 8) .nil)) (.cons (.bi .tuple (.var 9)) .nil)) .nil)) (.cons (.ret (.cst (.bool false)))
      .nil) .nil)
      .nil))))
      (.cons (.iff (.cmp .NotEq (.call 4 (.cons (.var 3) (.cons (.cst (.str "new")) .nil)) .nil) (.call 5 (.cons (.var 3) (.cons (.cst (.str "new")) .nil)) (.cons (.cst .none) .nil))) (.cons (.ret (.cst (.bool false)))
      .nil) .nil)
      (.cons (.iff (.cmp .NotEq (.call 6 (.cons (.var 3) .nil) .nil) (.call 3 (.cons (.var 3) .nil) (.cons (.cst .none) .nil))) (.cons (.ret (.cst (.bool false)))
      .nil) .nil)
      .nil)))))))
      (.cons (.ret (.cst (.bool true)))
      .nil))
def c_law : Ck := mkCk n_law [⟨"_law_state_holds", 3, []⟩, ⟨"_law_ways", 3, []⟩, ⟨"_law_same", 2, []⟩, ⟨"stuck", 1, ["roles"]⟩, ⟨"moves_from", 2, []⟩, ⟨"moves_from", 2, ["roles"]⟩, ⟨"stuck", 1, []⟩] ["_law_drawn_flow", "_law_draw"] [] ["int", "range", "tuple"]
theorem ck_law : ckSs c_law (defScope s_law) b_law ((defBody s_law).tail) = true := by decide +kernel
def g_law (ns : List Int) : G := mkG [(sem_law_state_holds ns), (sem_law_ways ns), (sem_law_same ns 24), (sem_stuck ns), (fun ds => sem_moves_from ns (ds ++ [(.none : D)])), (sem_moves_from ns), (fun ds => sem_stuck ns (ds ++ [(.none : D)]))] [(semT_law_drawn_flow ns), (semT_law_draw ns)] [] (fun _ => 0) 1000 (twI ns) (scI ns)
/-! ### what the top has written -/
structure Fc (K : PySem.W.Frag) (mg : Str → Option Value) where
  a_law_same : Addr
  d_law_same : FuncData
  f_law_same : FunD K "_law_same" "_law_same" (defArgs s_law_same) (defBody s_law_same) (defScope s_law_same) [] [] a_law_same d_law_same
  m_law_same : mg "_law_same" = some (.ref a_law_same)
  a_sort_of : Addr
  d_sort_of : FuncData
  f_sort_of : FunD K "sort_of" "sort_of" (defArgs s_sort_of) (defBody s_sort_of) (defScope s_sort_of) [] [] a_sort_of d_sort_of
  m_sort_of : mg "sort_of" = some (.ref a_sort_of)
  a_goal_of : Addr
  d_goal_of : FuncData
  f_goal_of : FunD K "goal_of" "goal_of" (defArgs s_goal_of) (defBody s_goal_of) (defScope s_goal_of) [] [] a_goal_of d_goal_of
  m_goal_of : mg "goal_of" = some (.ref a_goal_of)
  a_law_moves : Addr
  d_law_moves : FuncData
  f_law_moves : FunD K "_law_moves" "_law_moves" (defArgs s_law_moves) (defBody s_law_moves) (defScope s_law_moves) [] [] a_law_moves d_law_moves
  m_law_moves : mg "_law_moves" = some (.ref a_law_moves)
  a_law_ways : Addr
  d_law_ways : FuncData
  f_law_ways : FunD K "_law_ways" "_law_ways" (defArgs s_law_ways) (defBody s_law_ways) (defScope s_law_ways) [] [] a_law_ways d_law_ways
  m_law_ways : mg "_law_ways" = some (.ref a_law_ways)
  a_may_do : Addr
  d_may_do : FuncData
  f_may_do : FunD K "may_do" "may_do" (defArgs s_may_do) (defBody s_may_do) (defScope s_may_do) [] [] a_may_do d_may_do
  m_may_do : mg "may_do" = some (.ref a_may_do)
  a_moves_from : Addr
  d_moves_from : FuncData
  f_moves_from : FunD K "moves_from" "moves_from" (defArgs s_moves_from) (defBody s_moves_from) (defScope s_moves_from) [] [("roles", V.non)] a_moves_from d_moves_from
  m_moves_from : mg "moves_from" = some (.ref a_moves_from)
  a_ways_from : Addr
  d_ways_from : FuncData
  f_ways_from : FunD K "ways_from" "ways_from" (defArgs s_ways_from) (defBody s_ways_from) (defScope s_ways_from) [] [] a_ways_from d_ways_from
  m_ways_from : mg "ways_from" = some (.ref a_ways_from)
  a_reach : Addr
  d_reach : FuncData
  f_reach : FunD K "reach" "reach" (defArgs s_reach) (defBody s_reach) (defScope s_reach) [] [("roles", V.non)] a_reach d_reach
  m_reach : mg "reach" = some (.ref a_reach)
  a_way : Addr
  d_way : FuncData
  f_way : FunD K "way" "way" (defArgs s_way) (defBody s_way) (defScope s_way) [] [("roles", V.non)] a_way d_way
  m_way : mg "way" = some (.ref a_way)
  a_law_least : Addr
  d_law_least : FuncData
  f_law_least : FunD K "_law_least" "_law_least" (defArgs s_law_least) (defBody s_law_least) (defScope s_law_least) [] [] a_law_least d_law_least
  m_law_least : mg "_law_least" = some (.ref a_law_least)
  a_all_roles : Addr
  d_all_roles : FuncData
  f_all_roles : FunD K "all_roles" "all_roles" (defArgs s_all_roles) (defBody s_all_roles) (defScope s_all_roles) [] [] a_all_roles d_all_roles
  m_all_roles : mg "all_roles" = some (.ref a_all_roles)
  a_least_roles : Addr
  d_least_roles : FuncData
  f_least_roles : FunD K "least_roles" "least_roles" (defArgs s_least_roles) (defBody s_least_roles) (defScope s_least_roles) [] [] a_least_roles d_least_roles
  m_least_roles : mg "least_roles" = some (.ref a_least_roles)
  a_law_state_holds : Addr
  d_law_state_holds : FuncData
  f_law_state_holds : FunD K "_law_state_holds" "_law_state_holds" (defArgs s_law_state_holds) (defBody s_law_state_holds) (defScope s_law_state_holds) [] [] a_law_state_holds d_law_state_holds
  m_law_state_holds : mg "_law_state_holds" = some (.ref a_law_state_holds)
  a_stuck : Addr
  d_stuck : FuncData
  f_stuck : FunD K "stuck" "stuck" (defArgs s_stuck) (defBody s_stuck) (defScope s_stuck) [] [("roles", V.non)] a_stuck d_stuck
  m_stuck : mg "stuck" = some (.ref a_stuck)
  a_law_draw : Addr
  d_law_draw : FuncData
  f_law_draw : FunD K "_law_draw" "_law_draw" (defArgs s_law_draw) (defBody s_law_draw) (defScope s_law_draw) [] [] a_law_draw d_law_draw
  m_law_draw : mg "_law_draw" = some (.ref a_law_draw)
  a_law_pick : Addr
  d_law_pick : FuncData
  f_law_pick : FunD K "_law_pick" "_law_pick" (defArgs s_law_pick) (defBody s_law_pick) (defScope s_law_pick) [] [] a_law_pick d_law_pick
  m_law_pick : mg "_law_pick" = some (.ref a_law_pick)
  a_law_drawn_flow : Addr
  d_law_drawn_flow : FuncData
  f_law_drawn_flow : FunD K "_law_drawn_flow" "_law_drawn_flow" (defArgs s_law_drawn_flow) (defBody s_law_drawn_flow) (defScope s_law_drawn_flow) [] [] a_law_drawn_flow d_law_drawn_flow
  m_law_drawn_flow : mg "_law_drawn_flow" = some (.ref a_law_drawn_flow)
  bl : ∀ x ∈ (["abs", "all", "any", "bool", "int", "isinstance", "len", "list", "max", "min", "range", "set", "sorted", "str", "tuple", "zip"] : List Str), mg x = none
section
variable {P : Program} {w : World} {K : PySem.W.Frag} {mg : Str → Option Value} {base : Heap} (ns : List Int)
theorem oks_law_same (T : Fc K mg) : ∀ n : Nat, FnOk P w K mg base (L2.CX P w) (1 + n) T.a_law_same T.d_law_same ["_law_got", "_law_due"] (spD (par K) (sem_law_same ns n)) := by
  letI := twn ns
  intro n
  induction n with
  | zero => exact fn_no (p := par K) (c := ⟨P, w, mg, base, 1⟩)
  | succ n ih =>
    have h_law_same := ih
    exact fn_plain (p := par K) (c := ⟨P, w, mg, base, 1 + n⟩) (g := g_law_same ns n) (C := c_law_same) T.f_law_same sc_law_same (mkTab (p := par K) (c := ⟨P, w, mg, base, 1 + n⟩) (.cons (site_full h_law_same (Nat.le_refl _) T.m_law_same T.f_law_same.kp (kbn_full T.f_law_same 2 [] fun kV doc pm an cdv ct us ws h1 h2 => match us, ws, h1, h2 with | [_, _], [], _, _ => rfl)) .nil) .nil .nil (fun x h => T.bl x (sub_mem (by decide +kernel) h))) rfl (Nat.lt_of_lt_of_le (Nat.zero_lt_succ _) (Nat.le_add_right 1 n)) ck_law_same
theorem ok_law_same (T : Fc K mg) : FnOk P w K mg base (L2.CX P w) 25 T.a_law_same T.d_law_same ["_law_got", "_law_due"] (spD (par K) (sem_law_same ns 24)) := oks_law_same ns T 24
theorem ok_sort_of (T : Fc K mg) : FnOk P w K mg base (L2.CX P w) 2 T.a_sort_of T.d_sort_of ["flow", "state"] (spD (par K) (sem_sort_of ns)) := by
  letI := twn ns
  exact fn_plain (p := par K) (c := ⟨P, w, mg, base, 1⟩) (g := g_sort_of ns) (C := c_sort_of) T.f_sort_of sc_sort_of (mkTab (p := par K) (c := ⟨P, w, mg, base, 1⟩) .nil .nil .nil (fun x h => T.bl x (sub_mem (by decide +kernel) h))) rfl (Nat.zero_lt_succ _) ck_sort_of
theorem ok_goal_of (T : Fc K mg) : FnOk P w K mg base (L2.CX P w) 2 T.a_goal_of T.d_goal_of ["flow", "state", "word"] (spD (par K) (sem_goal_of ns)) := by
  letI := twn ns
  exact fn_plain (p := par K) (c := ⟨P, w, mg, base, 1⟩) (g := g_goal_of ns) (C := c_goal_of) T.f_goal_of sc_goal_of (mkTab (p := par K) (c := ⟨P, w, mg, base, 1⟩) .nil .nil .nil (fun x h => T.bl x (sub_mem (by decide +kernel) h))) rfl (Nat.zero_lt_succ _) ck_goal_of
theorem ok_law_moves (T : Fc K mg) : FnOk P w K mg base (L2.CX P w) 2 T.a_law_moves T.d_law_moves ["_law_flow", "_law_state", "_law_part"] (spD (par K) (sem_law_moves ns)) := by
  letI := twn ns
  exact fn_plain (p := par K) (c := ⟨P, w, mg, base, 1⟩) (g := g_law_moves ns) (C := c_law_moves) T.f_law_moves sc_law_moves (mkTab (p := par K) (c := ⟨P, w, mg, base, 1⟩) .nil .nil .nil (fun x h => T.bl x (sub_mem (by decide +kernel) h))) rfl (Nat.zero_lt_succ _) ck_law_moves
theorem ok_law_ways (T : Fc K mg) : FnOk P w K mg base (L2.CX P w) 3 T.a_law_ways T.d_law_ways ["_law_flow", "_law_state", "_law_part"] (spD (par K) (sem_law_ways ns)) := by
  letI := twn ns
  exact fn_plain (p := par K) (c := ⟨P, w, mg, base, 2⟩) (g := g_law_ways ns) (C := c_law_ways) T.f_law_ways sc_law_ways (mkTab (p := par K) (c := ⟨P, w, mg, base, 2⟩) (.cons (site_full (ok_law_moves ns T) (Nat.le_of_ble_eq_true rfl) T.m_law_moves T.f_law_moves.kp (kbn_full T.f_law_moves 3 [] fun kV doc pm an cdv ct us ws h1 h2 => match us, ws, h1, h2 with | [_, _, _], [], _, _ => rfl)) .nil) .nil .nil (fun x h => T.bl x (sub_mem (by decide +kernel) h))) rfl (Nat.zero_lt_succ _) ck_law_ways
theorem ok_may_do (T : Fc K mg) : FnOk P w K mg base (L2.CX P w) 2 T.a_may_do T.d_may_do ["move", "roles"] (spD (par K) (sem_may_do ns)) := by
  letI := twn ns
  exact fn_plain (p := par K) (c := ⟨P, w, mg, base, 1⟩) (g := g_may_do ns) (C := c_may_do) T.f_may_do sc_may_do (mkTab (p := par K) (c := ⟨P, w, mg, base, 1⟩) .nil .nil .nil (fun x h => T.bl x (sub_mem (by decide +kernel) h))) rfl (Nat.zero_lt_succ _) ck_may_do
theorem ok_moves_from (T : Fc K mg) : FnOk P w K mg base (L2.CX P w) 3 T.a_moves_from T.d_moves_from ["flow", "state", "roles"] (spD (par K) (sem_moves_from ns)) := by
  letI := twn ns
  exact fn_plain (p := par K) (c := ⟨P, w, mg, base, 2⟩) (g := g_moves_from ns) (C := c_moves_from) T.f_moves_from sc_moves_from (mkTab (p := par K) (c := ⟨P, w, mg, base, 2⟩) (.cons (site_full (ok_may_do ns T) (Nat.le_of_ble_eq_true rfl) T.m_may_do T.f_may_do.kp (kbn_full T.f_may_do 2 [] fun kV doc pm an cdv ct us ws h1 h2 => match us, ws, h1, h2 with | [_, _], [], _, _ => rfl)) .nil) .nil .nil (fun x h => T.bl x (sub_mem (by decide +kernel) h))) rfl (Nat.zero_lt_succ _) ck_moves_from
theorem ok_ways_from (T : Fc K mg) : FnOk P w K mg base (L2.CX P w) 3 T.a_ways_from T.d_ways_from ["flow", "state", "roles"] (spD (par K) (sem_ways_from ns)) := by
  letI := twn ns
  exact fn_plain (p := par K) (c := ⟨P, w, mg, base, 2⟩) (g := g_ways_from ns) (C := c_ways_from) T.f_ways_from sc_ways_from (mkTab (p := par K) (c := ⟨P, w, mg, base, 2⟩) (.cons (site_full (ok_may_do ns T) (Nat.le_of_ble_eq_true rfl) T.m_may_do T.f_may_do.kp (kbn_full T.f_may_do 2 [] fun kV doc pm an cdv ct us ws h1 h2 => match us, ws, h1, h2 with | [_, _], [], _, _ => rfl)) .nil) .nil .nil (fun x h => T.bl x (sub_mem (by decide +kernel) h))) rfl (Nat.zero_lt_succ _) ck_ways_from
theorem ok_reach (T : Fc K mg) : FnOk P w K mg base (L2.CX P w) 4 T.a_reach T.d_reach ["flow", "state", "roles"] (spD (par K) (sem_reach ns)) := by
  letI := twn ns
  exact fn_plain (p := par K) (c := ⟨P, w, mg, base, 3⟩) (g := g_reach ns) (C := c_reach) T.f_reach sc_reach (mkTab (p := par K) (c := ⟨P, w, mg, base, 3⟩) (.cons (site_full (ok_ways_from ns T) (Nat.le_of_ble_eq_true rfl) T.m_ways_from T.f_ways_from.kp (kbn_full T.f_ways_from 3 [] fun kV doc pm an cdv ct us ws h1 h2 => match us, ws, h1, h2 with | [_, _, _], [], _, _ => rfl)) .nil) .nil .nil (fun x h => T.bl x (sub_mem (by decide +kernel) h))) rfl (Nat.zero_lt_succ _) ck_reach
theorem ok_way (T : Fc K mg) : FnOk P w K mg base (L2.CX P w) 4 T.a_way T.d_way ["flow", "state", "goal", "roles"] (spD (par K) (sem_way ns)) := by
  letI := twn ns
  exact fn_plain (p := par K) (c := ⟨P, w, mg, base, 3⟩) (g := g_way ns) (C := c_way) T.f_way sc_way (mkTab (p := par K) (c := ⟨P, w, mg, base, 3⟩) (.cons (site_full (ok_ways_from ns T) (Nat.le_of_ble_eq_true rfl) T.m_ways_from T.f_ways_from.kp (kbn_full T.f_ways_from 3 [] fun kV doc pm an cdv ct us ws h1 h2 => match us, ws, h1, h2 with | [_, _, _], [], _, _ => rfl)) .nil) .nil .nil (fun x h => T.bl x (sub_mem (by decide +kernel) h))) rfl (Nat.zero_lt_succ _) ck_way
theorem ok_law_least (T : Fc K mg) : FnOk P w K mg base (L2.CX P w) 4 T.a_law_least T.d_law_least ["_law_flow", "_law_state", "_law_goal"] (spD (par K) (sem_law_least ns)) := by
  letI := twn ns
  exact fn_plain (p := par K) (c := ⟨P, w, mg, base, 3⟩) (g := g_law_least ns) (C := c_law_least) T.f_law_least sc_law_least (mkTab (p := par K) (c := ⟨P, w, mg, base, 3⟩) (.cons (site_full (ok_law_ways ns T) (Nat.le_of_ble_eq_true rfl) T.m_law_ways T.f_law_ways.kp (kbn_full T.f_law_ways 3 [] fun kV doc pm an cdv ct us ws h1 h2 => match us, ws, h1, h2 with | [_, _, _], [], _, _ => rfl)) .nil) .nil .nil (fun x h => T.bl x (sub_mem (by decide +kernel) h))) rfl (Nat.zero_lt_succ _) ck_law_least
theorem ok_all_roles (T : Fc K mg) : FnOk P w K mg base (L2.CX P w) 2 T.a_all_roles T.d_all_roles ["flow"] (spD (par K) (sem_all_roles ns)) := by
  letI := twn ns
  exact fn_plain (p := par K) (c := ⟨P, w, mg, base, 1⟩) (g := g_all_roles ns) (C := c_all_roles) T.f_all_roles sc_all_roles (mkTab (p := par K) (c := ⟨P, w, mg, base, 1⟩) .nil .nil .nil (fun x h => T.bl x (sub_mem (by decide +kernel) h))) rfl (Nat.zero_lt_succ _) ck_all_roles
theorem ok_least_roles (T : Fc K mg) : FnOk P w K mg base (L2.CX P w) 5 T.a_least_roles T.d_least_roles ["flow", "state", "goal"] (spD (par K) (sem_least_roles ns)) := by
  letI := twn ns
  exact fn_plain (p := par K) (c := ⟨P, w, mg, base, 4⟩) (g := g_least_roles ns) (C := c_least_roles) T.f_least_roles sc_least_roles (mkTab (p := par K) (c := ⟨P, w, mg, base, 4⟩) (.cons (site_full (ok_all_roles ns T) (Nat.le_of_ble_eq_true rfl) T.m_all_roles T.f_all_roles.kp (kbn_full T.f_all_roles 1 [] fun kV doc pm an cdv ct us ws h1 h2 => match us, ws, h1, h2 with | [_], [], _, _ => rfl)) (.cons (site_full (ok_way ns T) (Nat.le_of_ble_eq_true rfl) T.m_way T.f_way.kp (kbn_full T.f_way 3 ["roles"] fun kV doc pm an cdv ct us ws h1 h2 => match us, ws, h1, h2 with | [_, _, _], [_], _, _ => rfl)) .nil)) .nil .nil (fun x h => T.bl x (sub_mem (by decide +kernel) h))) rfl (Nat.zero_lt_succ _) ck_least_roles
theorem ok_law_state_holds (T : Fc K mg) : FnOk P w K mg base (L2.CX P w) 26 T.a_law_state_holds T.d_law_state_holds ["_law_flow", "_law_state", "_law_some"] (spD (par K) (sem_law_state_holds ns)) := by
  letI := twn ns
  exact fn_plain (p := par K) (c := ⟨P, w, mg, base, 25⟩) (g := g_law_state_holds ns) (C := c_law_state_holds) T.f_law_state_holds sc_law_state_holds (mkTab (p := par K) (c := ⟨P, w, mg, base, 25⟩) (.cons (site_full (ok_law_same ns T) (Nat.le_of_ble_eq_true rfl) T.m_law_same T.f_law_same.kp (kbn_full T.f_law_same 2 [] fun kV doc pm an cdv ct us ws h1 h2 => match us, ws, h1, h2 with | [_, _], [], _, _ => rfl)) (.cons (site_full (ok_sort_of ns T) (Nat.le_of_ble_eq_true rfl) T.m_sort_of T.f_sort_of.kp (kbn_full T.f_sort_of 2 [] fun kV doc pm an cdv ct us ws h1 h2 => match us, ws, h1, h2 with | [_, _], [], _, _ => rfl)) (.cons (site_full (ok_goal_of ns T) (Nat.le_of_ble_eq_true rfl) T.m_goal_of T.f_goal_of.kp (kbn_full T.f_goal_of 3 [] fun kV doc pm an cdv ct us ws h1 h2 => match us, ws, h1, h2 with | [_, _, _], [], _, _ => rfl)) (.cons (site_full (ok_law_ways ns T) (Nat.le_of_ble_eq_true rfl) T.m_law_ways T.f_law_ways.kp (kbn_full T.f_law_ways 3 [] fun kV doc pm an cdv ct us ws h1 h2 => match us, ws, h1, h2 with | [_, _, _], [], _, _ => rfl)) (.cons (site_full (ok_law_moves ns T) (Nat.le_of_ble_eq_true rfl) T.m_law_moves T.f_law_moves.kp (kbn_full T.f_law_moves 3 [] fun kV doc pm an cdv ct us ws h1 h2 => match us, ws, h1, h2 with | [_, _, _], [], _, _ => rfl)) (.cons (site_full (ok_moves_from ns T) (Nat.le_of_ble_eq_true rfl) T.m_moves_from T.f_moves_from.kp (kbn_full T.f_moves_from 2 ["roles"] fun kV doc pm an cdv ct us ws h1 h2 => match us, ws, h1, h2 with | [_, _], [_], _, _ => rfl)) (.cons (site_full (ok_reach ns T) (Nat.le_of_ble_eq_true rfl) T.m_reach T.f_reach.kp (kbn_full T.f_reach 2 ["roles"] fun kV doc pm an cdv ct us ws h1 h2 => match us, ws, h1, h2 with | [_, _], [_], _, _ => rfl)) (.cons (site_full (ok_way ns T) (Nat.le_of_ble_eq_true rfl) T.m_way T.f_way.kp (kbn_full T.f_way 3 ["roles"] fun kV doc pm an cdv ct us ws h1 h2 => match us, ws, h1, h2 with | [_, _, _], [_], _, _ => rfl)) (.cons (site_full (ok_law_least ns T) (Nat.le_of_ble_eq_true rfl) T.m_law_least T.f_law_least.kp (kbn_full T.f_law_least 3 [] fun kV doc pm an cdv ct us ws h1 h2 => match us, ws, h1, h2 with | [_, _, _], [], _, _ => rfl)) (.cons (site_full (ok_least_roles ns T) (Nat.le_of_ble_eq_true rfl) T.m_least_roles T.f_least_roles.kp (kbn_full T.f_least_roles 3 [] fun kV doc pm an cdv ct us ws h1 h2 => match us, ws, h1, h2 with | [_, _, _], [], _, _ => rfl)) .nil)))))))))) .nil .nil (fun x h => T.bl x (sub_mem (by decide +kernel) h))) rfl (Nat.zero_lt_succ _) ck_law_state_holds
theorem ok_stuck (T : Fc K mg) : FnOk P w K mg base (L2.CX P w) 5 T.a_stuck T.d_stuck ["flow", "roles"] (spD (par K) (sem_stuck ns)) := by
  letI := twn ns
  exact fn_plain (p := par K) (c := ⟨P, w, mg, base, 4⟩) (g := g_stuck ns) (C := c_stuck) T.f_stuck sc_stuck (mkTab (p := par K) (c := ⟨P, w, mg, base, 4⟩) (.cons (site_full (ok_reach ns T) (Nat.le_of_ble_eq_true rfl) T.m_reach T.f_reach.kp (kbn_full T.f_reach 2 ["roles"] fun kV doc pm an cdv ct us ws h1 h2 => match us, ws, h1, h2 with | [_, _], [_], _, _ => rfl)) .nil) .nil .nil (fun x h => T.bl x (sub_mem (by decide +kernel) h))) rfl (Nat.zero_lt_succ _) ck_stuck
theorem ok_law_draw (T : Fc K mg) : FnOk P w K mg base (L2.CX P w) 2 T.a_law_draw T.d_law_draw ["_law_script", "_law_town", "_law_many"] (@spT (twn ns) (par K) (semT_law_draw ns)) := by
  letI := twn ns
  exact fn_town (p := par K) (c := ⟨P, w, mg, base, 1⟩) (g := g_law_draw ns) (C := c_law_draw) T.f_law_draw sc_law_draw rfl (mkTab (p := par K) (c := ⟨P, w, mg, base, 1⟩) .nil .nil .nil (fun x h => T.bl x (sub_mem (by decide +kernel) h))) rfl (Nat.zero_lt_succ _) ck_law_draw
theorem ok_law_pick (T : Fc K mg) : FnOk P w K mg base (L2.CX P w) 3 T.a_law_pick T.d_law_pick ["_law_script", "_law_town", "_law_some"] (@spT (twn ns) (par K) (semT_law_pick ns)) := by
  letI := twn ns
  exact fn_town (p := par K) (c := ⟨P, w, mg, base, 2⟩) (g := g_law_pick ns) (C := c_law_pick) T.f_law_pick sc_law_pick rfl (mkTab (p := par K) (c := ⟨P, w, mg, base, 2⟩) .nil (.cons (site_town (ok_law_draw ns T) (Nat.le_of_ble_eq_true rfl) T.m_law_draw T.f_law_draw.kp (T.f_law_draw.bindsN fun kV doc pm an cdv ct us hl => match us, hl with | [_, _, _], _ => rfl)) .nil) .nil (fun x h => T.bl x (sub_mem (by decide +kernel) h))) rfl (Nat.zero_lt_succ _) ck_law_pick
theorem ok_law_drawn_flow (T : Fc K mg) : FnOk P w K mg base (L2.CX P w) 4 T.a_law_drawn_flow T.d_law_drawn_flow ["_law_script", "_law_town"] (@spT (twn ns) (par K) (semT_law_drawn_flow ns)) := by
  letI := twn ns
  exact fn_town (p := par K) (c := ⟨P, w, mg, base, 3⟩) (g := g_law_drawn_flow ns) (C := c_law_drawn_flow) T.f_law_drawn_flow sc_law_drawn_flow rfl (mkTab (p := par K) (c := ⟨P, w, mg, base, 3⟩) .nil (.cons (site_town (ok_law_draw ns T) (Nat.le_of_ble_eq_true rfl) T.m_law_draw T.f_law_draw.kp (T.f_law_draw.bindsN fun kV doc pm an cdv ct us hl => match us, hl with | [_, _, _], _ => rfl)) (.cons (site_town (ok_law_pick ns T) (Nat.le_of_ble_eq_true rfl) T.m_law_pick T.f_law_pick.kp (T.f_law_pick.bindsN fun kV doc pm an cdv ct us hl => match us, hl with | [_, _, _], _ => rfl)) .nil)) .nil (fun x h => T.bl x (sub_mem (by decide +kernel) h))) rfl (Nat.zero_lt_succ _) ck_law_drawn_flow
theorem ok_law (T : Fc K mg) {f : Addr} {fd : FuncData} (F : FunD K "law" "law" (defArgs s_law) (defBody s_law) (defScope s_law) [] [] f fd) {k : Nat} (hx : exes (g_law ns) b_law (some .scr :: some .town :: List.replicate 11 none) 0 = .rt (.bool true) k) :
    FnOk P w K mg base (L2.CX P w) 27 f fd ["_law_script"] (fun vs H Q _ => ∃ v, vs = [v] ∧ Rp K H v (scI ns) ∧ ∀ H', Q (.bl true) H') := by
  letI := twn ns
  exact fn_law (p := par K) (c := ⟨P, w, mg, base, 26⟩) (g := g_law ns) (C := c_law) (NN := n_law.tail.tail) F sc_law rfl (by decide +kernel) (mkTab (p := par K) (c := ⟨P, w, mg, base, 26⟩) (.cons (site_full (ok_law_state_holds ns T) (Nat.le_of_ble_eq_true rfl) T.m_law_state_holds T.f_law_state_holds.kp (kbn_full T.f_law_state_holds 3 [] fun kV doc pm an cdv ct us ws h1 h2 => match us, ws, h1, h2 with | [_, _, _], [], _, _ => rfl)) (.cons (site_full (ok_law_ways ns T) (Nat.le_of_ble_eq_true rfl) T.m_law_ways T.f_law_ways.kp (kbn_full T.f_law_ways 3 [] fun kV doc pm an cdv ct us ws h1 h2 => match us, ws, h1, h2 with | [_, _, _], [], _, _ => rfl)) (.cons (site_full (ok_law_same ns T) (Nat.le_of_ble_eq_true rfl) T.m_law_same T.f_law_same.kp (kbn_full T.f_law_same 2 [] fun kV doc pm an cdv ct us ws h1 h2 => match us, ws, h1, h2 with | [_, _], [], _, _ => rfl)) (.cons (site_full (ok_stuck ns T) (Nat.le_of_ble_eq_true rfl) T.m_stuck T.f_stuck.kp (kbn_full T.f_stuck 1 ["roles"] fun kV doc pm an cdv ct us ws h1 h2 => match us, ws, h1, h2 with | [_], [_], _, _ => rfl)) (.cons (site_dflt (dd := [.none]) (ok_moves_from ns T) (Nat.le_of_ble_eq_true rfl) T.m_moves_from T.f_moves_from.kp (kbn_dflt T.f_moves_from 2 (by decide) rfl fun D doc pm an cdv ct us ks h1 h2 => match us, ks, h1, h2 with | [_, _], [_], _, _ => ⟨_, _, _, _, _, _, rfl, rfl, rfl⟩) fun _ => .cons .non (.nil)) (.cons (site_full (ok_moves_from ns T) (Nat.le_of_ble_eq_true rfl) T.m_moves_from T.f_moves_from.kp (kbn_full T.f_moves_from 2 ["roles"] fun kV doc pm an cdv ct us ws h1 h2 => match us, ws, h1, h2 with | [_, _], [_], _, _ => rfl)) (.cons (site_dflt (dd := [.none]) (ok_stuck ns T) (Nat.le_of_ble_eq_true rfl) T.m_stuck T.f_stuck.kp (kbn_dflt T.f_stuck 1 (by decide) rfl fun D doc pm an cdv ct us ks h1 h2 => match us, ks, h1, h2 with | [_], [_], _, _ => ⟨_, _, _, _, _, _, rfl, rfl, rfl⟩) fun _ => .cons .non (.nil)) .nil))))))) (.cons (site_town (ok_law_drawn_flow ns T) (Nat.le_of_ble_eq_true rfl) T.m_law_drawn_flow T.f_law_drawn_flow.kp (T.f_law_drawn_flow.bindsN fun kV doc pm an cdv ct us hl => match us, hl with | [_, _], _ => rfl)) (.cons (site_town (ok_law_draw ns T) (Nat.le_of_ble_eq_true rfl) T.m_law_draw T.f_law_draw.kp (T.f_law_draw.bindsN fun kV doc pm an cdv ct us hl => match us, hl with | [_, _, _], _ => rfl)) .nil)) .nil (fun x h => T.bl x (sub_mem (by decide +kernel) h))) rfl (Nat.zero_lt_succ _) ck_law rfl hx
end
set_option maxHeartbeats 0 in
theorem all_mk {P : Program} {w : World} {K : PySem.W.Frag} {h : Heap} {mg : Str → Option Value} {fa : Addr} (X : K.In h) (G : h.Ns mainGlobals mg) (hfa : mg "law" = some (.ref fa))
    {a0 : Addr} {od0 an0 : Option Addr} {sl0 : Array (Option Value)} {oc0 kV0 dc0 pm0 cd0 ct0 : Value}
    (n0 : PySem.W.nsIn K mainGlobals "_law_same" = some (some (.ref a0))) (l0 : K.lookup a0 = some ⟨oc0, od0, .func (PySem.W.fnOf "_law_same" "_law_same" (defArgs s_law_same) (defBody s_law_same) (defScope s_law_same) .none kV0 dc0 pm0 an0 cd0 ct0), sl0⟩) (c0 : PySem.W.codeIn K cd0 "_law_same" = true) (k0 : PySem.W.keepIn K (.ref a0) = true)
    {a1 : Addr} {od1 an1 : Option Addr} {sl1 : Array (Option Value)} {oc1 kV1 dc1 pm1 cd1 ct1 : Value}
    (n1 : PySem.W.nsIn K mainGlobals "sort_of" = some (some (.ref a1))) (l1 : K.lookup a1 = some ⟨oc1, od1, .func (PySem.W.fnOf "sort_of" "sort_of" (defArgs s_sort_of) (defBody s_sort_of) (defScope s_sort_of) .none kV1 dc1 pm1 an1 cd1 ct1), sl1⟩) (c1 : PySem.W.codeIn K cd1 "sort_of" = true) (k1 : PySem.W.keepIn K (.ref a1) = true)
    {a2 : Addr} {od2 an2 : Option Addr} {sl2 : Array (Option Value)} {oc2 kV2 dc2 pm2 cd2 ct2 : Value}
    (n2 : PySem.W.nsIn K mainGlobals "goal_of" = some (some (.ref a2))) (l2 : K.lookup a2 = some ⟨oc2, od2, .func (PySem.W.fnOf "goal_of" "goal_of" (defArgs s_goal_of) (defBody s_goal_of) (defScope s_goal_of) .none kV2 dc2 pm2 an2 cd2 ct2), sl2⟩) (c2 : PySem.W.codeIn K cd2 "goal_of" = true) (k2 : PySem.W.keepIn K (.ref a2) = true)
    {a3 : Addr} {od3 an3 : Option Addr} {sl3 : Array (Option Value)} {oc3 kV3 dc3 pm3 cd3 ct3 : Value}
    (n3 : PySem.W.nsIn K mainGlobals "_law_moves" = some (some (.ref a3))) (l3 : K.lookup a3 = some ⟨oc3, od3, .func (PySem.W.fnOf "_law_moves" "_law_moves" (defArgs s_law_moves) (defBody s_law_moves) (defScope s_law_moves) .none kV3 dc3 pm3 an3 cd3 ct3), sl3⟩) (c3 : PySem.W.codeIn K cd3 "_law_moves" = true) (k3 : PySem.W.keepIn K (.ref a3) = true)
    {a4 : Addr} {od4 an4 : Option Addr} {sl4 : Array (Option Value)} {oc4 kV4 dc4 pm4 cd4 ct4 : Value}
    (n4 : PySem.W.nsIn K mainGlobals "_law_ways" = some (some (.ref a4))) (l4 : K.lookup a4 = some ⟨oc4, od4, .func (PySem.W.fnOf "_law_ways" "_law_ways" (defArgs s_law_ways) (defBody s_law_ways) (defScope s_law_ways) .none kV4 dc4 pm4 an4 cd4 ct4), sl4⟩) (c4 : PySem.W.codeIn K cd4 "_law_ways" = true) (k4 : PySem.W.keepIn K (.ref a4) = true)
    {a5 : Addr} {od5 an5 : Option Addr} {sl5 : Array (Option Value)} {oc5 kV5 dc5 pm5 cd5 ct5 : Value}
    (n5 : PySem.W.nsIn K mainGlobals "may_do" = some (some (.ref a5))) (l5 : K.lookup a5 = some ⟨oc5, od5, .func (PySem.W.fnOf "may_do" "may_do" (defArgs s_may_do) (defBody s_may_do) (defScope s_may_do) .none kV5 dc5 pm5 an5 cd5 ct5), sl5⟩) (c5 : PySem.W.codeIn K cd5 "may_do" = true) (k5 : PySem.W.keepIn K (.ref a5) = true)
    {a6 : Addr} {od6 an6 : Option Addr} {sl6 : Array (Option Value)} {oc6 dc6 pm6 cd6 ct6 : Value}
    {kd6 : Addr}
    (n6 : PySem.W.nsIn K mainGlobals "moves_from" = some (some (.ref a6))) (l6 : K.lookup a6 = some ⟨oc6, od6, .func (PySem.W.fnOf "moves_from" "moves_from" (defArgs s_moves_from) (defBody s_moves_from) (defScope s_moves_from) .none (.ref kd6) dc6 pm6 an6 cd6 ct6), sl6⟩) (c6 : PySem.W.codeIn K cd6 "moves_from" = true) (k6 : PySem.W.keepIn K (.ref a6) = true)
    (d6_roles : PySem.W.nsIn K kd6 "roles" = some (some .none))
    {a7 : Addr} {od7 an7 : Option Addr} {sl7 : Array (Option Value)} {oc7 kV7 dc7 pm7 cd7 ct7 : Value}
    (n7 : PySem.W.nsIn K mainGlobals "ways_from" = some (some (.ref a7))) (l7 : K.lookup a7 = some ⟨oc7, od7, .func (PySem.W.fnOf "ways_from" "ways_from" (defArgs s_ways_from) (defBody s_ways_from) (defScope s_ways_from) .none kV7 dc7 pm7 an7 cd7 ct7), sl7⟩) (c7 : PySem.W.codeIn K cd7 "ways_from" = true) (k7 : PySem.W.keepIn K (.ref a7) = true)
    {a8 : Addr} {od8 an8 : Option Addr} {sl8 : Array (Option Value)} {oc8 dc8 pm8 cd8 ct8 : Value}
    {kd8 : Addr}
    (n8 : PySem.W.nsIn K mainGlobals "reach" = some (some (.ref a8))) (l8 : K.lookup a8 = some ⟨oc8, od8, .func (PySem.W.fnOf "reach" "reach" (defArgs s_reach) (defBody s_reach) (defScope s_reach) .none (.ref kd8) dc8 pm8 an8 cd8 ct8), sl8⟩) (c8 : PySem.W.codeIn K cd8 "reach" = true) (k8 : PySem.W.keepIn K (.ref a8) = true)
    (d8_roles : PySem.W.nsIn K kd8 "roles" = some (some .none))
    {a9 : Addr} {od9 an9 : Option Addr} {sl9 : Array (Option Value)} {oc9 dc9 pm9 cd9 ct9 : Value}
    {kd9 : Addr}
    (n9 : PySem.W.nsIn K mainGlobals "way" = some (some (.ref a9))) (l9 : K.lookup a9 = some ⟨oc9, od9, .func (PySem.W.fnOf "way" "way" (defArgs s_way) (defBody s_way) (defScope s_way) .none (.ref kd9) dc9 pm9 an9 cd9 ct9), sl9⟩) (c9 : PySem.W.codeIn K cd9 "way" = true) (k9 : PySem.W.keepIn K (.ref a9) = true)
    (d9_roles : PySem.W.nsIn K kd9 "roles" = some (some .none))
    {a10 : Addr} {od10 an10 : Option Addr} {sl10 : Array (Option Value)} {oc10 kV10 dc10 pm10 cd10 ct10 : Value}
    (n10 : PySem.W.nsIn K mainGlobals "_law_least" = some (some (.ref a10))) (l10 : K.lookup a10 = some ⟨oc10, od10, .func (PySem.W.fnOf "_law_least" "_law_least" (defArgs s_law_least) (defBody s_law_least) (defScope s_law_least) .none kV10 dc10 pm10 an10 cd10 ct10), sl10⟩) (c10 : PySem.W.codeIn K cd10 "_law_least" = true) (k10 : PySem.W.keepIn K (.ref a10) = true)
    {a11 : Addr} {od11 an11 : Option Addr} {sl11 : Array (Option Value)} {oc11 kV11 dc11 pm11 cd11 ct11 : Value}
    (n11 : PySem.W.nsIn K mainGlobals "all_roles" = some (some (.ref a11))) (l11 : K.lookup a11 = some ⟨oc11, od11, .func (PySem.W.fnOf "all_roles" "all_roles" (defArgs s_all_roles) (defBody s_all_roles) (defScope s_all_roles) .none kV11 dc11 pm11 an11 cd11 ct11), sl11⟩) (c11 : PySem.W.codeIn K cd11 "all_roles" = true) (k11 : PySem.W.keepIn K (.ref a11) = true)
    {a12 : Addr} {od12 an12 : Option Addr} {sl12 : Array (Option Value)} {oc12 kV12 dc12 pm12 cd12 ct12 : Value}
    (n12 : PySem.W.nsIn K mainGlobals "least_roles" = some (some (.ref a12))) (l12 : K.lookup a12 = some ⟨oc12, od12, .func (PySem.W.fnOf "least_roles" "least_roles" (defArgs s_least_roles) (defBody s_least_roles) (defScope s_least_roles) .none kV12 dc12 pm12 an12 cd12 ct12), sl12⟩) (c12 : PySem.W.codeIn K cd12 "least_roles" = true) (k12 : PySem.W.keepIn K (.ref a12) = true)
    {a13 : Addr} {od13 an13 : Option Addr} {sl13 : Array (Option Value)} {oc13 kV13 dc13 pm13 cd13 ct13 : Value}
    (n13 : PySem.W.nsIn K mainGlobals "_law_state_holds" = some (some (.ref a13))) (l13 : K.lookup a13 = some ⟨oc13, od13, .func (PySem.W.fnOf "_law_state_holds" "_law_state_holds" (defArgs s_law_state_holds) (defBody s_law_state_holds) (defScope s_law_state_holds) .none kV13 dc13 pm13 an13 cd13 ct13), sl13⟩) (c13 : PySem.W.codeIn K cd13 "_law_state_holds" = true) (k13 : PySem.W.keepIn K (.ref a13) = true)
    {a14 : Addr} {od14 an14 : Option Addr} {sl14 : Array (Option Value)} {oc14 dc14 pm14 cd14 ct14 : Value}
    {kd14 : Addr}
    (n14 : PySem.W.nsIn K mainGlobals "stuck" = some (some (.ref a14))) (l14 : K.lookup a14 = some ⟨oc14, od14, .func (PySem.W.fnOf "stuck" "stuck" (defArgs s_stuck) (defBody s_stuck) (defScope s_stuck) .none (.ref kd14) dc14 pm14 an14 cd14 ct14), sl14⟩) (c14 : PySem.W.codeIn K cd14 "stuck" = true) (k14 : PySem.W.keepIn K (.ref a14) = true)
    (d14_roles : PySem.W.nsIn K kd14 "roles" = some (some .none))
    {a15 : Addr} {od15 an15 : Option Addr} {sl15 : Array (Option Value)} {oc15 kV15 dc15 pm15 cd15 ct15 : Value}
    (n15 : PySem.W.nsIn K mainGlobals "_law_draw" = some (some (.ref a15))) (l15 : K.lookup a15 = some ⟨oc15, od15, .func (PySem.W.fnOf "_law_draw" "_law_draw" (defArgs s_law_draw) (defBody s_law_draw) (defScope s_law_draw) .none kV15 dc15 pm15 an15 cd15 ct15), sl15⟩) (c15 : PySem.W.codeIn K cd15 "_law_draw" = true) (k15 : PySem.W.keepIn K (.ref a15) = true)
    {a16 : Addr} {od16 an16 : Option Addr} {sl16 : Array (Option Value)} {oc16 kV16 dc16 pm16 cd16 ct16 : Value}
    (n16 : PySem.W.nsIn K mainGlobals "_law_pick" = some (some (.ref a16))) (l16 : K.lookup a16 = some ⟨oc16, od16, .func (PySem.W.fnOf "_law_pick" "_law_pick" (defArgs s_law_pick) (defBody s_law_pick) (defScope s_law_pick) .none kV16 dc16 pm16 an16 cd16 ct16), sl16⟩) (c16 : PySem.W.codeIn K cd16 "_law_pick" = true) (k16 : PySem.W.keepIn K (.ref a16) = true)
    {a17 : Addr} {od17 an17 : Option Addr} {sl17 : Array (Option Value)} {oc17 kV17 dc17 pm17 cd17 ct17 : Value}
    (n17 : PySem.W.nsIn K mainGlobals "_law_drawn_flow" = some (some (.ref a17))) (l17 : K.lookup a17 = some ⟨oc17, od17, .func (PySem.W.fnOf "_law_drawn_flow" "_law_drawn_flow" (defArgs s_law_drawn_flow) (defBody s_law_drawn_flow) (defScope s_law_drawn_flow) .none kV17 dc17 pm17 an17 cd17 ct17), sl17⟩) (c17 : PySem.W.codeIn K cd17 "_law_drawn_flow" = true) (k17 : PySem.W.keepIn K (.ref a17) = true)
    {a18 : Addr} {od18 an18 : Option Addr} {sl18 : Array (Option Value)} {oc18 kV18 dc18 pm18 cd18 ct18 : Value}
    (n18 : PySem.W.nsIn K mainGlobals "law" = some (some (.ref a18))) (l18 : K.lookup a18 = some ⟨oc18, od18, .func (PySem.W.fnOf "law" "law" (defArgs s_law) (defBody s_law) (defScope s_law) .none kV18 dc18 pm18 an18 cd18 ct18), sl18⟩) (c18 : PySem.W.codeIn K cd18 "law" = true) (k18 : PySem.W.keepIn K (.ref a18) = true)
    (z_abs : PySem.W.nsIn K mainGlobals "abs" = some none)
    (z_all : PySem.W.nsIn K mainGlobals "all" = some none)
    (z_any : PySem.W.nsIn K mainGlobals "any" = some none)
    (z_bool : PySem.W.nsIn K mainGlobals "bool" = some none)
    (z_int : PySem.W.nsIn K mainGlobals "int" = some none)
    (z_isinstance : PySem.W.nsIn K mainGlobals "isinstance" = some none)
    (z_len : PySem.W.nsIn K mainGlobals "len" = some none)
    (z_list : PySem.W.nsIn K mainGlobals "list" = some none)
    (z_max : PySem.W.nsIn K mainGlobals "max" = some none)
    (z_min : PySem.W.nsIn K mainGlobals "min" = some none)
    (z_range : PySem.W.nsIn K mainGlobals "range" = some none)
    (z_set : PySem.W.nsIn K mainGlobals "set" = some none)
    (z_sorted : PySem.W.nsIn K mainGlobals "sorted" = some none)
    (z_str : PySem.W.nsIn K mainGlobals "str" = some none)
    (z_tuple : PySem.W.nsIn K mainGlobals "tuple" = some none)
    (z_zip : PySem.W.nsIn K mainGlobals "zip" = some none)
    (plain : ∀ ns : List Int, ns.length ≤ 63 → ∃ k, exes (g_law ns) b_law (some .scr :: some .town :: List.replicate 11 none) 0 = .rt (.bool true) k) :
    ∃ fd : FuncData, (∀ (s : Shared) (v : Value), BindsTo s fd ⟨[v], []⟩ [("_law_script", v)]) ∧ ∀ base : Heap, K.In base → base.Ns mainGlobals mg → FnOk P w K mg base (L2.CX P w) 27 fa fd ["_law_script"] (spLaw K) := by
  have e := hfa.symm.trans (PySem.W.mg_of X G n18)
  have e2 : fa = a18 := by
    cases e
    rfl
  rw [e2]
  have F0 : FunD K "_law_same" "_law_same" (defArgs s_law_same) (defBody s_law_same) (defScope s_law_same) [] [] a0 _ := ⟨⟨oc0, od0, .none, _, dc0, pm0, an0, cd0, ct0, sl0, rfl, l0, c0, .inl ⟨rfl, rfl⟩, .inl rfl⟩, k0⟩
  have F1 : FunD K "sort_of" "sort_of" (defArgs s_sort_of) (defBody s_sort_of) (defScope s_sort_of) [] [] a1 _ := ⟨⟨oc1, od1, .none, _, dc1, pm1, an1, cd1, ct1, sl1, rfl, l1, c1, .inl ⟨rfl, rfl⟩, .inl rfl⟩, k1⟩
  have F2 : FunD K "goal_of" "goal_of" (defArgs s_goal_of) (defBody s_goal_of) (defScope s_goal_of) [] [] a2 _ := ⟨⟨oc2, od2, .none, _, dc2, pm2, an2, cd2, ct2, sl2, rfl, l2, c2, .inl ⟨rfl, rfl⟩, .inl rfl⟩, k2⟩
  have F3 : FunD K "_law_moves" "_law_moves" (defArgs s_law_moves) (defBody s_law_moves) (defScope s_law_moves) [] [] a3 _ := ⟨⟨oc3, od3, .none, _, dc3, pm3, an3, cd3, ct3, sl3, rfl, l3, c3, .inl ⟨rfl, rfl⟩, .inl rfl⟩, k3⟩
  have F4 : FunD K "_law_ways" "_law_ways" (defArgs s_law_ways) (defBody s_law_ways) (defScope s_law_ways) [] [] a4 _ := ⟨⟨oc4, od4, .none, _, dc4, pm4, an4, cd4, ct4, sl4, rfl, l4, c4, .inl ⟨rfl, rfl⟩, .inl rfl⟩, k4⟩
  have F5 : FunD K "may_do" "may_do" (defArgs s_may_do) (defBody s_may_do) (defScope s_may_do) [] [] a5 _ := ⟨⟨oc5, od5, .none, _, dc5, pm5, an5, cd5, ct5, sl5, rfl, l5, c5, .inl ⟨rfl, rfl⟩, .inl rfl⟩, k5⟩
  have F6 : FunD K "moves_from" "moves_from" (defArgs s_moves_from) (defBody s_moves_from) (defScope s_moves_from) [] [("roles", V.non)] a6 _ := ⟨⟨oc6, od6, .none, _, dc6, pm6, an6, cd6, ct6, sl6, rfl, l6, c6, .inl ⟨rfl, rfl⟩, .inr ⟨kd6, rfl, (kw_cons d6_roles rfl (fun q h => nomatch h))⟩⟩, k6⟩
  have F7 : FunD K "ways_from" "ways_from" (defArgs s_ways_from) (defBody s_ways_from) (defScope s_ways_from) [] [] a7 _ := ⟨⟨oc7, od7, .none, _, dc7, pm7, an7, cd7, ct7, sl7, rfl, l7, c7, .inl ⟨rfl, rfl⟩, .inl rfl⟩, k7⟩
  have F8 : FunD K "reach" "reach" (defArgs s_reach) (defBody s_reach) (defScope s_reach) [] [("roles", V.non)] a8 _ := ⟨⟨oc8, od8, .none, _, dc8, pm8, an8, cd8, ct8, sl8, rfl, l8, c8, .inl ⟨rfl, rfl⟩, .inr ⟨kd8, rfl, (kw_cons d8_roles rfl (fun q h => nomatch h))⟩⟩, k8⟩
  have F9 : FunD K "way" "way" (defArgs s_way) (defBody s_way) (defScope s_way) [] [("roles", V.non)] a9 _ := ⟨⟨oc9, od9, .none, _, dc9, pm9, an9, cd9, ct9, sl9, rfl, l9, c9, .inl ⟨rfl, rfl⟩, .inr ⟨kd9, rfl, (kw_cons d9_roles rfl (fun q h => nomatch h))⟩⟩, k9⟩
  have F10 : FunD K "_law_least" "_law_least" (defArgs s_law_least) (defBody s_law_least) (defScope s_law_least) [] [] a10 _ := ⟨⟨oc10, od10, .none, _, dc10, pm10, an10, cd10, ct10, sl10, rfl, l10, c10, .inl ⟨rfl, rfl⟩, .inl rfl⟩, k10⟩
  have F11 : FunD K "all_roles" "all_roles" (defArgs s_all_roles) (defBody s_all_roles) (defScope s_all_roles) [] [] a11 _ := ⟨⟨oc11, od11, .none, _, dc11, pm11, an11, cd11, ct11, sl11, rfl, l11, c11, .inl ⟨rfl, rfl⟩, .inl rfl⟩, k11⟩
  have F12 : FunD K "least_roles" "least_roles" (defArgs s_least_roles) (defBody s_least_roles) (defScope s_least_roles) [] [] a12 _ := ⟨⟨oc12, od12, .none, _, dc12, pm12, an12, cd12, ct12, sl12, rfl, l12, c12, .inl ⟨rfl, rfl⟩, .inl rfl⟩, k12⟩
  have F13 : FunD K "_law_state_holds" "_law_state_holds" (defArgs s_law_state_holds) (defBody s_law_state_holds) (defScope s_law_state_holds) [] [] a13 _ := ⟨⟨oc13, od13, .none, _, dc13, pm13, an13, cd13, ct13, sl13, rfl, l13, c13, .inl ⟨rfl, rfl⟩, .inl rfl⟩, k13⟩
  have F14 : FunD K "stuck" "stuck" (defArgs s_stuck) (defBody s_stuck) (defScope s_stuck) [] [("roles", V.non)] a14 _ := ⟨⟨oc14, od14, .none, _, dc14, pm14, an14, cd14, ct14, sl14, rfl, l14, c14, .inl ⟨rfl, rfl⟩, .inr ⟨kd14, rfl, (kw_cons d14_roles rfl (fun q h => nomatch h))⟩⟩, k14⟩
  have F15 : FunD K "_law_draw" "_law_draw" (defArgs s_law_draw) (defBody s_law_draw) (defScope s_law_draw) [] [] a15 _ := ⟨⟨oc15, od15, .none, _, dc15, pm15, an15, cd15, ct15, sl15, rfl, l15, c15, .inl ⟨rfl, rfl⟩, .inl rfl⟩, k15⟩
  have F16 : FunD K "_law_pick" "_law_pick" (defArgs s_law_pick) (defBody s_law_pick) (defScope s_law_pick) [] [] a16 _ := ⟨⟨oc16, od16, .none, _, dc16, pm16, an16, cd16, ct16, sl16, rfl, l16, c16, .inl ⟨rfl, rfl⟩, .inl rfl⟩, k16⟩
  have F17 : FunD K "_law_drawn_flow" "_law_drawn_flow" (defArgs s_law_drawn_flow) (defBody s_law_drawn_flow) (defScope s_law_drawn_flow) [] [] a17 _ := ⟨⟨oc17, od17, .none, _, dc17, pm17, an17, cd17, ct17, sl17, rfl, l17, c17, .inl ⟨rfl, rfl⟩, .inl rfl⟩, k17⟩
  have F18 : FunD K "law" "law" (defArgs s_law) (defBody s_law) (defScope s_law) [] [] a18 _ := ⟨⟨oc18, od18, .none, _, dc18, pm18, an18, cd18, ct18, sl18, rfl, l18, c18, .inl ⟨rfl, rfl⟩, .inl rfl⟩, k18⟩
  have T : Fc K mg := {
    a_law_same := a0, d_law_same := _, f_law_same := F0, m_law_same := PySem.W.mg_of X G n0
    a_sort_of := a1, d_sort_of := _, f_sort_of := F1, m_sort_of := PySem.W.mg_of X G n1
    a_goal_of := a2, d_goal_of := _, f_goal_of := F2, m_goal_of := PySem.W.mg_of X G n2
    a_law_moves := a3, d_law_moves := _, f_law_moves := F3, m_law_moves := PySem.W.mg_of X G n3
    a_law_ways := a4, d_law_ways := _, f_law_ways := F4, m_law_ways := PySem.W.mg_of X G n4
    a_may_do := a5, d_may_do := _, f_may_do := F5, m_may_do := PySem.W.mg_of X G n5
    a_moves_from := a6, d_moves_from := _, f_moves_from := F6, m_moves_from := PySem.W.mg_of X G n6
    a_ways_from := a7, d_ways_from := _, f_ways_from := F7, m_ways_from := PySem.W.mg_of X G n7
    a_reach := a8, d_reach := _, f_reach := F8, m_reach := PySem.W.mg_of X G n8
    a_way := a9, d_way := _, f_way := F9, m_way := PySem.W.mg_of X G n9
    a_law_least := a10, d_law_least := _, f_law_least := F10, m_law_least := PySem.W.mg_of X G n10
    a_all_roles := a11, d_all_roles := _, f_all_roles := F11, m_all_roles := PySem.W.mg_of X G n11
    a_least_roles := a12, d_least_roles := _, f_least_roles := F12, m_least_roles := PySem.W.mg_of X G n12
    a_law_state_holds := a13, d_law_state_holds := _, f_law_state_holds := F13, m_law_state_holds := PySem.W.mg_of X G n13
    a_stuck := a14, d_stuck := _, f_stuck := F14, m_stuck := PySem.W.mg_of X G n14
    a_law_draw := a15, d_law_draw := _, f_law_draw := F15, m_law_draw := PySem.W.mg_of X G n15
    a_law_pick := a16, d_law_pick := _, f_law_pick := F16, m_law_pick := PySem.W.mg_of X G n16
    a_law_drawn_flow := a17, d_law_drawn_flow := _, f_law_drawn_flow := F17, m_law_drawn_flow := PySem.W.mg_of X G n17
    bl := (bl_cons (PySem.W.mg_none_of X G z_abs) (bl_cons (PySem.W.mg_none_of X G z_all) (bl_cons (PySem.W.mg_none_of X G z_any) (bl_cons (PySem.W.mg_none_of X G z_bool) (bl_cons (PySem.W.mg_none_of X G z_int) (bl_cons (PySem.W.mg_none_of X G z_isinstance) (bl_cons (PySem.W.mg_none_of X G z_len) (bl_cons (PySem.W.mg_none_of X G z_list) (bl_cons (PySem.W.mg_none_of X G z_max) (bl_cons (PySem.W.mg_none_of X G z_min) (bl_cons (PySem.W.mg_none_of X G z_range) (bl_cons (PySem.W.mg_none_of X G z_set) (bl_cons (PySem.W.mg_none_of X G z_sorted) (bl_cons (PySem.W.mg_none_of X G z_str) (bl_cons (PySem.W.mg_none_of X G z_tuple) (bl_cons (PySem.W.mg_none_of X G z_zip) (fun x h => nomatch h))))))))))))))))) }
  refine ⟨PySem.W.fnOf "law" "law" (defArgs s_law) (defBody s_law) (defScope s_law) .none kV18 dc18 pm18 an18 cd18 ct18, fun s v => .of_eq rfl, fun base _ _ => law_all fun ns hns => ?_⟩
  obtain ⟨k, hk⟩ := plain ns hns
  exact ok_law ns T F18 hk
end K02

namespace K02
open PySem PySem.W PySem.Spec PyProof.Rows L2 Y
theorem same_all (ns : List Int) : ∀ n, Y.N02.SameT n (sem_law_same ns n)
  | 0 => fun d h => by rw [Y.N02.okS] at h; cases h
  | n + 1 => Y.N02.same_step (g := g_law_same ns n) (same_all ns n)
theorem plain (ns : List Int) (hns : ns.length ≤ 63) : ∃ k, exes (g_law ns) b_law (some .scr :: some .town :: List.replicate 11 none) 0 = .rt (.bool true) k := by
  have d0 : DrawsOk (semT_law_draw ns) := draws_ok (g := g_law_draw ns) ⟨rfl, rfl⟩ hns
  have d1 : PicksOk (semT_law_pick ns) := picks_ok (g := g_law_pick ns) d0
  have may : MayOk (sem_may_do ns) := fun m rl => may_ok
  have ways : WaysT (sem_ways_from ns) := ways_run (g := g_ways_from ns) may rfl
  have way : WayT (sem_way ns) := way_run (g := g_way ns) ways
  have rch : ReachT (sem_reach ns) := reach_run (g := g_reach ns) ways
  have mvs : MvsT (sem_moves_from ns) := fun fl st rl => mvs_ok (g := g_moves_from ns) may
  have goal : GoalT (sem_goal_of ns) := fun fl st w => goal_ok (g := g_goal_of ns)
  have all : AllT (sem_all_roles ns) := all_run (g := g_all_roles ns)
  have least : LeastT (sem_least_roles ns) := least_run (g := g_least_roles ns) all way
  have stk : StuckT (sem_stuck ns) := stuck_run (g := g_stuck ns) rch
  have srt : SortT (sem_sort_of ns) := sort_run (g := g_sort_of ns)
  have same := same_all ns 24
  have hmv : Y.N02.HMvT (sem_law_moves ns) := Y.N02.hmv_run (g := g_law_moves ns)
  have hw : Y.N02.HWaysT (sem_law_ways ns) := Y.N02.hways_run (g := g_law_ways ns) hmv
  have hlst : Y.N02.HLeastT (sem_law_least ns) := Y.N02.hleast_run (g := g_law_least ns) hw
  have sg : Y.N02.StG (g_law_state_holds ns) := ⟨same, srt, goal, hw, hmv, mvs, rch, way, hlst, least⟩
  exact Y.N02.law_run (g := g_law ns) ⟨fun fl st sm ho hst => Y.N02.st_run sg ho hst, hw, same, stk, fun fl st => mvs fl st none, mvs, fun fl ho => stk fl none ho, fun d hd => drawn_ok (g := g_law_drawn_flow ns) d1 d0 hd, d0⟩
end K02

open PySem PySem.W PyProof.Rows L2
set_option maxRecDepth 100000 in
set_option maxHeartbeats 0 in
theorem PySem.Challenge.cw_ticketyard_k02_flows_by_hand_holds : PySem.Challenge.rw_ticketyard_k02_flows_by_hand.Holds := by
  w_on; o_law; k_head; (case hw => w_witness2)
  k_fill
  refine L2.walk_of (l := PySem.Challenge.rw_ticketyard_k02_flows_by_hand) (n := 63) (k := 27) (x := "_law_script") (CX := fun w => L2.CX PySem.Challenge.rw_ticketyard_k02_flows_by_hand.prog w) (sp := fun w => Y.spLaw _) rfl (by decide) rfl ⟨rfl, by decide, by decide⟩ (fun w h Z => PySem.W.kIn_of Z) ?F (fun _ _ a ns hl _ hS => ⟨a, ns, rfl, hS, hl, fun _ => rfl⟩) (fun _ _ _ _ _ ⟨_, _, _, _, _, _, _, _, _, _, _, _, z⟩ => z)
  case F =>
    intro w mg fa h KX G hmg
    refine' K02.all_mk (w := w) KX G hmg ?n0 ?l0 ?c0 ?k0 ?n1 ?l1 ?c1 ?k1 ?n2 ?l2 ?c2 ?k2 ?n3 ?l3 ?c3 ?k3 ?n4 ?l4 ?c4 ?k4 ?n5 ?l5 ?c5 ?k5 ?n6 ?l6 ?c6 ?k6 ?d6_roles ?n7 ?l7 ?c7 ?k7 ?n8 ?l8 ?c8 ?k8 ?d8_roles ?n9 ?l9 ?c9 ?k9 ?d9_roles ?n10 ?l10 ?c10 ?k10 ?n11 ?l11 ?c11 ?k11 ?n12 ?l12 ?c12 ?k12 ?n13 ?l13 ?c13 ?k13 ?n14 ?l14 ?c14 ?k14 ?d14_roles ?n15 ?l15 ?c15 ?k15 ?n16 ?l16 ?c16 ?k16 ?n17 ?l17 ?c17 ?k17 ?n18 ?l18 ?c18 ?k18 ?z_abs ?z_all ?z_any ?z_bool ?z_int ?z_isinstance ?z_len ?z_list ?z_max ?z_min ?z_range ?z_set ?z_sorted ?z_str ?z_tuple ?z_zip K02.plain
    case n0 => k_is
    case l0 => k_is
    case c0 => k_is
    case k0 => k_is
    case n1 => k_is
    case l1 => k_is
    case c1 => k_is
    case k1 => k_is
    case n2 => k_is
    case l2 => k_is
    case c2 => k_is
    case k2 => k_is
    case n3 => k_is
    case l3 => k_is
    case c3 => k_is
    case k3 => k_is
    case n4 => k_is
    case l4 => k_is
    case c4 => k_is
    case k4 => k_is
    case n5 => k_is
    case l5 => k_is
    case c5 => k_is
    case k5 => k_is
    case n6 => k_is
    case l6 => k_is
    case c6 => k_is
    case k6 => k_is
    case d6_roles => k_is
    case n7 => k_is
    case l7 => k_is
    case c7 => k_is
    case k7 => k_is
    case n8 => k_is
    case l8 => k_is
    case c8 => k_is
    case k8 => k_is
    case d8_roles => k_is
    case n9 => k_is
    case l9 => k_is
    case c9 => k_is
    case k9 => k_is
    case d9_roles => k_is
    case n10 => k_is
    case l10 => k_is
    case c10 => k_is
    case k10 => k_is
    case n11 => k_is
    case l11 => k_is
    case c11 => k_is
    case k11 => k_is
    case n12 => k_is
    case l12 => k_is
    case c12 => k_is
    case k12 => k_is
    case n13 => k_is
    case l13 => k_is
    case c13 => k_is
    case k13 => k_is
    case n14 => k_is
    case l14 => k_is
    case c14 => k_is
    case k14 => k_is
    case d14_roles => k_is
    case n15 => k_is
    case l15 => k_is
    case c15 => k_is
    case k15 => k_is
    case n16 => k_is
    case l16 => k_is
    case c16 => k_is
    case k16 => k_is
    case n17 => k_is
    case l17 => k_is
    case c17 => k_is
    case k17 => k_is
    case n18 => k_is
    case l18 => k_is
    case c18 => k_is
    case k18 => k_is
    case z_abs => k_is
    case z_all => k_is
    case z_any => k_is
    case z_bool => k_is
    case z_int => k_is
    case z_isinstance => k_is
    case z_len => k_is
    case z_list => k_is
    case z_max => k_is
    case z_min => k_is
    case z_range => k_is
    case z_set => k_is
    case z_sorted => k_is
    case z_str => k_is
    case z_tuple => k_is
    case z_zip => k_is

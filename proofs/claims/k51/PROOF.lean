import PyProof.Rows.All
import KE.KDictKeyed
import PyProof.StrBlock2
import Wide.All
import OpenK.AllK
import Wide.FinOn
import HandS.ForMost
import HandS.TupAny
import PyProof.NeData
import PyProof.ReprReads
import HandS.Style
import HandS.Strs
import HandS.Replace
import HandS.HeadWalk
import HandS.Rev
import HandS.Comp
import HandS.DictComp
import HandS.Codes
import HandS.Ends
import KE.KStateDown
import HandS.More
import HandS.Defaults
import HandS.Head0
import HandS.Head1
import HandS.Head2
import HandS.HeadEnd
import HandS.HeadHook1
import HandS.HeadHook2
import PyProof.Rows.RegRepr
import PySem.Challenge.RW_vatlink_k51_line_once
section
set_option autoImplicit false
set_option linter.all false
/-! L3: values with tuples by value, mutable objects at addresses, a small language, its weakest preconditions -/
namespace L3
open PySem

/-- a value: tuples by value; lists, dicts, instances by their address; kl: a list that nothing changes -/
inductive D where
  | non
  | bl (b : Bool)
  | int (i : Int)
  | str (x : Str)
  | tup (ds : List D)
  | ref (a : Addr)
  | kl (ds : List D)
  | exn (c : Nat) (ds : List D)
  deriving Inhabited

/-- a mutable object; lck: a dict while it is walked -/
inductive MO where
  | lst (ds : List D)
  | dct (kvs : List (D × D))
  | lck (kvs : List (D × D))
  | ins (c : Nat) (fs : List (Str × D))

abbrev Mp := Addr → Option MO
abbrev Lo := List (Option D)
abbrev Post := D → Mp → Prop
/-- a def's meaning: arguments, heap, what is wanted of the value, of an exception -/
abbrev Spec := List D → Mp → Post → Post → Prop

def mset (M : Mp) (a : Addr) (o : MO) : Mp := fun b => if b = a then some o else M b
theorem mset_same {M : Mp} {a : Addr} {o : MO} : mset M a o a = some o := if_pos rfl
theorem mset_ne {M : Mp} {a b : Addr} {o : MO} (h : b ≠ a) : mset M a o b = M b := if_neg h

mutual
def D.pure : D → Bool
  | .non | .bl _ | .int _ | .str _ => true
  | .tup ds => D.pures ds
  | .ref _ | .exn _ _ | .kl _ => false
def D.pures : List D → Bool
  | [] => true
  | d :: ds => d.pure && D.pures ds
end
mutual
/-- a value up to == -/
def D.key : D → NestedKey
  | .non => .none
  | .bl b => .num (if b = true then 1 else 0)
  | .int i => .num i
  | .str x => .text x
  | .tup ds => .tup (D.keys ds)
  | .ref _ | .exn _ _ | .kl _ => .none
def D.keys : List D → List NestedKey
  | [] => []
  | d :: ds => d.key :: D.keys ds
end
mutual
/-- as data -/
def D.py : D → PyData
  | .non => .none
  | .bl b => .bool b
  | .int i => .int i
  | .str x => .str x
  | .tup ds => .tuple (D.pys ds)
  | .ref _ | .exn _ _ | .kl _ => .none
def D.pys : List D → List PyData
  | [] => []
  | d :: ds => d.py :: D.pys ds
end
def D.eqv (x y : D) : Bool := NestedKey.beq x.key y.key
/-- two values that == may be asked of: both pure, not too deep -/
def D.flat (x : D) : Bool := x.pure && decide (x.key.depth ≤ 8)
/-- a key of a dict: an int, a text, or a tuple of keys -/
def D.hk : D → Bool
  | .int _ => true
  | .str _ => true
  | .tup ds => D.pures ds && decide ((D.tup ds).key.depth ≤ 8)
  | _ => false
/-- a key that is an int or a text -/
def D.hk1 : D → Bool
  | .int _ => true
  | .str _ => true
  | _ => false
def D.isT : D → Bool
  | .tup _ => true
  | _ => false
def dget (kvs : List (D × D)) (k : D) : Option D := (kvs.find? fun p => p.1.eqv k).map (·.2)
def dhas (kvs : List (D × D)) (k : D) : Bool := kvs.any fun p => p.1.eqv k
def dput (kvs : List (D × D)) (k v : D) : List (D × D) :=
  if dhas kvs k then kvs.map fun p => if p.1.eqv k then (p.1, v) else p else kvs ++ [(k, v)]
def ddel (kvs : List (D × D)) (k : D) : List (D × D) := kvs.filter fun p => !p.1.eqv k

/-! what a value reads as data through the heap -/
mutual
inductive Deep (M : Mp) : D → PyData → Prop where
  | non : Deep M .non .none
  | bl (b : Bool) : Deep M (.bl b) (.bool b)
  | int (i : Int) : Deep M (.int i) (.int i)
  | str (x : Str) : Deep M (.str x) (.str x)
  | tup {ds : List D} {ps : List PyData} : Deeps M ds ps → Deep M (.tup ds) (.tuple ps)
  | lst {a : Addr} {ds : List D} {ps : List PyData} : M a = some (.lst ds) → Deeps M ds ps → Deep M (.ref a) (.list ps)
  | dct {a : Addr} {kvs : List (D × D)} {ps : List (PyData × PyData)} : M a = some (.dct kvs) → Deeps M (kvs.map (·.1)) (ps.map (·.1)) → Deeps M (kvs.map (·.2)) (ps.map (·.2)) → Deep M (.ref a) (.dict ps)
inductive Deeps (M : Mp) : List D → List PyData → Prop where
  | nil : Deeps M [] []
  | cons {d : D} {ds : List D} {p : PyData} {ps : List PyData} : Deep M d p → Deeps M ds ps → Deeps M (d :: ds) (p :: ps)
end

/-! the language -/
inductive BOp where
  | add | sub | mul | fdiv | mod | pow | shl | shr
inductive UOp where
  | neg
inductive COp where
  | eq | ne | lt | le | gt | ge | isIn | notIn | is | isNot
/-- built-in functions and types, called -/
inductive Blt where
  | len | int | str | repr | max | min | abs | sum | list | tuple | sorted | range
/-- a built-in type, for isinstance -/
inductive Ty where
  | int | bool | str | list | tuple
/-- methods of built-in types -/
inductive Mth where
  | append | extend | pop | index | get | items | values | clear | remove | insert | join | split | keys
/-- what is walked -/
inductive ItK where
  | plain | range | enumerate | reversed | items | values | zip

inductive Tg where
  | one (i : Nat)
  | many (l : List Nat)

def Tg.sl : Tg → List Nat
  | .one i => [i]
  | .many l => l
/-- which sequence is made of what is walked -/
inductive SeqF where
  | list | tuple | sorted | sum | dict

mutual
inductive E where
  | var (i : Nat)
  | int (i : Int)
  | str (x : Str)
  | bl (b : Bool)
  | non
  | con (d : D)
  | bin (o : BOp) (a b : E)
  | un (o : UOp) (a : E)
  | cmp (o : COp) (a b : E)
  | cmp2 (o o' : COp) (a b c : E)
  | and (a b : E)
  | or (a b : E)
  | not (a : E)
  | ite (c : T) (a b : E)
  | tup (es : Es)
  | lst (es : Es)
  | dct (es : Es)
  | call (f : Nat) (es : Es)
  | blt (f : Blt) (es : Es)
  | seq (f : SeqF) (k : ItK) (es : Es)
  | inst (a : E) (t : Ty)
  | mth (o : E) (m : Mth) (es : Es)
  | umth (o : E) (m : Str) (c f : Nat) (es : Es)
  | make (c f : Nat) (es : Es)
  | ix (a b : E)
  | sl (a : E) (lo hi : E)
  | fld (a : E) (f : Str)
  | comp (own : List Nat) (elt : E) (t : Tg) (k : ItK) (es : Es) (c : T)
  | dcomp (own : List Nat) (kx vx : E) (t : Tg) (k : ItK) (es : Es) (c : T)
  | gen (all : Bool) (own : List Nat) (elt : E) (t : Tg) (k : ItK) (es : Es)
  | disp (tbl : Nat) (key : E) (es : Es)
  | cidx (ds : List D) (es : Es)
  | bad
inductive Es where
  | nil
  | cons (e : E) (es : Es)
inductive T where
  | tt
  | val (e : E)
  | and (a b : T)
  | or (a b : T)
  | not (a : T)
end

mutual
inductive S where
  | expr (e : E)
  | ret (e : E)
  | set (t : Tg) (e : E)
  | setIx (a b e : E)
  | setFld (a : E) (f : Str) (e : E)
  | aug (i : Nat) (o : BOp) (e : E)
  | augFld (a : E) (f : Str) (o : BOp) (e : E)
  | delIx (a b : E)
  | ite (c : T) (a b : Ss)
  | wh (c : T) (b : Ss)
  | for (t : Tg) (k : ItK) (es : Es) (b : Ss)
  | brk
  | cnt
  | pass
  | raise (c : Nat) (es : Es)
  | tryE (b : Ss) (c : Nat) (i : Option Nat) (h : Ss)
  | bad
inductive Ss where
  | nil
  | cons (s : S) (ss : Ss)
end

/-! ### what a program is -/
structure Pr where
  sp : Nat → Spec
  /-- what a class's instances may have as fields -/
  fl : Nat → Str → Bool
  /-- the def that a table gives for a text -/
  tab : Nat → Str → Option Nat
  /-- an exception class's fields -/
  exf : Nat → List Str
  /-- whether a clause of the second class takes an exception of the first one -/
  sub : Nat → Nat → Bool

/-! ### values -/
def truthy : D → Mp → (Bool → Prop) → Prop
  | .non, _, k => k false
  | .bl b, _, k => k b
  | .int i, _, k => k (i != 0)
  | .str x, _, k => x.length ≤ sizeLine ∧ k (x.length != 0)
  | .tup ds, _, k => k (!ds.isEmpty)
  | .ref a, M, k => match M a with
    | some (.lst ds) => k (!ds.isEmpty)
    | _ => False
  | .exn _ _, _, _ => False
  | .kl _, _, _ => False

/-- a factor below 2 ^ 64 -/
def MulOk (i j : Int) : Prop := (-(2 ^ 64) < i ∧ i < 2 ^ 64) ∨ (-(2 ^ 64) < j ∧ j < 2 ^ 64)
def wpNew (M : Mp) (o : MO) (Q : Post) : Prop := ∀ p, M p = none → Q (.ref p) (mset M p o)
def wpBin : BOp → D → D → Mp → Post → Prop
  | .add, .int i, .int j, M, Q => Q (.int (i + j)) M
  | .add, .str x, .str y, M, Q => x.length + y.length ≤ sizeLine ∧ Q (.str (x ++ y)) M
  | .add, .tup xs, .tup ys, M, Q => xs.length + ys.length ≤ sizeLine ∧ Q (.tup (xs ++ ys)) M
  | .add, .ref a, .ref b, M, Q => match M a, M b with
    | some (.lst xs), some (.lst ys) => xs.length + ys.length ≤ sizeLine ∧ wpNew M (.lst (xs ++ ys)) Q
    | _, _ => False
  | .sub, .int i, .int j, M, Q => Q (.int (i - j)) M
  | .mul, .int i, .int j, M, Q => MulOk i j ∧ Q (.int (i * j)) M
  | .mul, .str x, .int n, M, Q => PySem.MulOk x n ∧ Q (.str (Txt.mul x n)) M
  | .fdiv, .int i, .int j, M, Q => (0 < j ∧ j < 1073741824) ∧ Q (.int (i / j)) M
  | .mod, .int i, .int j, M, Q => 0 < j ∧ Q (.int (i % j)) M
  | .pow, .int i, .int j, M, Q => (0 ≤ j ∧ j ≤ 1000000 ∧ i.natAbs < 2 ^ 64) ∧ Q (.int (i ^ j.toNat)) M
  | .shl, .int i, .int j, M, Q => (0 ≤ j ∧ j ≤ 1000000 ∧ i.natAbs < 2 ^ 64) ∧ Q (.int (i * 2 ^ j.toNat)) M
  | .shr, .int i, .int j, M, Q => 0 ≤ j ∧ Q (.int (i / 2 ^ j.toNat)) M
  | _, _, _, _, _ => False
/-- x op= y: of no list, which would be changed in place -/
def wpInp (o : BOp) (x y : D) (M : Mp) (Q : Post) : Prop := match o, x, y with
  | .add, .int i, .int j => wpBin .add (.int i) (.int j) M Q
  | .add, .str i, .str j => wpBin .add (.str i) (.str j) M Q
  | .sub, .int i, .int j => wpBin .sub (.int i) (.int j) M Q
  | .mul, .int i, .int j => wpBin .mul (.int i) (.int j) M Q
  | .fdiv, .int i, .int j => wpBin .fdiv (.int i) (.int j) M Q
  | _, _, _ => False
def wpUn : UOp → D → Mp → Post → Prop
  | .neg, .int i, M, Q => Q (.int (-i)) M
  | _, _, _, _ => False
def wpEq (x y : D) (M : Mp) (k : Bool → Prop) : Prop := match x, y with
  | .ref a, .ref b => ∃ p q, Deep M (.ref a) p ∧ Deep M (.ref b) q ∧ SeqAt.shaped p = true ∧ SeqAt.shaped q = true ∧ k (PyData.eqv p q)
  | x, y => (x.flat = true ∧ y.flat = true) ∧ k (x.eqv y)
def wpIn (x y : D) (M : Mp) (k : Bool → Prop) : Prop := match y with
  | .tup ds => (x.flat = true ∧ (∀ d ∈ ds, d.flat = true)) ∧ k (ds.any fun z => z.eqv x)
  | .str y => match x with
    | .str x => x.length = 1 ∧ k (decide (x.cps.getD 0 0 ∈ y.cps.toList))
    | _ => False
  | .ref a => match M a with
    | some (.lst ds) => (x.flat = true ∧ (∀ d ∈ ds, d.flat = true)) ∧ k (ds.any fun z => z.eqv x)
    | some (.dct kvs) => x.hk1 = true ∧ k (dhas kvs x)
    | _ => False
  | _ => False
def D.isNon : D → Bool
  | .non => true
  | _ => false
def wpCmp (o : COp) (x y : D) (M : Mp) (k : Bool → Prop) : Prop := match o with
  | .eq => wpEq x y M k
  | .ne => wpEq x y M fun b => k (!b)
  | .isIn => wpIn x y M k
  | .notIn => wpIn x y M fun b => k (!b)
  | .lt => match x, y with
    | .int i, .int j => k (decide (i < j))
    | _, _ => False
  | .le => match x, y with
    | .int i, .int j => k (decide (i ≤ j))
    | _, _ => False
  | .gt => match x, y with
    | .int i, .int j => k (decide (j < i))
    | _, _ => False
  | .ge => match x, y with
    | .int i, .int j => k (decide (j ≤ i))
    | _, _ => False
  | .is => match x, y with
    | .bl a, .bl b => k (a == b)
    | x, .non => k x.isNon
    | _, _ => False
  | .isNot => match x, y with
    | .bl a, .bl b => k (!(a == b))
    | x, .non => k (!x.isNon)
    | _, _ => False
/-- an item by its place, from the end where it is below nought -/
def atD (ds : List D) (i : Int) : Option D := if 0 ≤ i then ds[i.toNat]? else if 0 ≤ i + ds.length then ds[(i + ds.length).toNat]? else none
def wpIx (x y : D) (M : Mp) (Q : Post) : Prop := match x with
  | .kl ds => match y with
    | .int i => ∃ d, atD ds i = some d ∧ Q d M
    | _ => False
  | .tup ds => match y with
    | .int i => ∃ d, atD ds i = some d ∧ Q d M
    | _ => False
  | .str z => match y with
    | .int i => ∃ c, z.length ≤ sizeLine ∧ atD (z.cps.toList.map fun c => .str ⟨#[c]⟩) i = some c ∧ Q c M
    | _ => False
  | .ref a => match M a with
    | some (.lst ds) => (match y with
      | .int i => ∃ d, atD ds i = some d ∧ Q d M
      | _ => False)
    | some (.dct kvs) => y.hk1 = true ∧ ∃ d, dget kvs y = some d ∧ Q d M
    | some (.lck kvs) => y.hk1 = true ∧ ∃ d, dget kvs y = some d ∧ Q d M
    | _ => False
  | _ => False
/-- a slice's end in a sequence of n items -/
def sEnd (n : Nat) (i : Int) : Nat := if 0 ≤ i then min i.toNat n else (i + n).toNat
def sLo (n : Nat) : D → Nat
  | .int i => sEnd n i
  | _ => 0
def sHi (n : Nat) : D → Nat
  | .int i => sEnd n i
  | _ => n
def D.ion : D → Bool
  | .int _ => true
  | .non => true
  | _ => false
def cut {α : Type} (ds : List α) (lo hi : D) : List α := (ds.drop (sLo ds.length lo)).take (sHi ds.length hi - sLo ds.length lo)
def wpSl (x lo hi : D) (M : Mp) (Q : Post) : Prop := (lo.ion = true ∧ hi.ion = true) ∧ match x with
  | .tup ds => Q (.tup (cut ds lo hi)) M
  | .str z => z.length ≤ sizeLine ∧ Q (.str ⟨(cut z.cps.toList lo hi).toArray⟩) M
  | .ref a => match M a with
    | some (.lst ds) => wpNew M (.lst (cut ds lo hi)) Q
    | _ => False
  | _ => False
def posOf (f : Str) : List Str → List D → Option D
  | g :: gs, d :: ds => if g = f then some d else posOf f gs ds
  | _, _ => none
def wpFld (P : Pr) (x : D) (f : Str) (M : Mp) (Q : Post) : Prop := match x with
  | .ref a => match M a with
    | some (.ins c fs) => P.fl c f = true ∧ ∃ v, fs.lookup f = some v ∧ Q v M
    | _ => False
  | .exn c ds => ∃ v, posOf f (P.exf c) ds = some v ∧ Q v M
  | _ => False

/-! ### what is walked: the items, what must stay, the heap of the walk, what is undone behind it -/
def dRange (lo hi : Int) : List D := (List.range (hi - lo).toNat).map fun (k : Nat) => .int (lo + (k : Int))
def small62 (i : Int) : Prop := -(2 ^ 62) ≤ i ∧ i < 2 ^ 62
abbrev ItR := List D → (Mp → Prop) → Mp → (Mp → Mp) → Prop
/-- a walked dict is free again -/
def unlk (a : Addr) (M : Mp) : Mp := match M a with
  | some (.lck kvs) => mset M a (.dct kvs)
  | _ => M
def wpItD (f : List (D × D) → List D) (a : Addr) (kvs : List (D × D)) (M : Mp) (R : ItR) : Prop :=
  R (f kvs) (fun M' => M' a = some (.lck kvs)) (mset M a (.lck kvs)) (unlk a)
def enumD (ds : List D) : List D := ds.zipIdx.map fun p => .tup [.int p.2, p.1]
def wpIt (k : ItK) (ds : List D) (M : Mp) (R : ItR) : Prop := match k, ds with
  | .plain, [.tup xs] => R xs (fun _ => True) M id
  | .plain, [.kl xs] => R xs (fun _ => True) M id
  | .plain, [.str z] => z.length ≤ sizeLine ∧ R (z.cps.toList.map fun c => .str ⟨#[c]⟩) (fun _ => True) M id
  | .plain, [.ref a] => (match M a with
    | some (.lst xs) => R xs (fun M' => M' a = some (.lst xs)) M id
    | some (.dct kvs) => wpItD (·.map (·.1)) a kvs M R
    | _ => False)
  | .range, [.int n] => small62 n ∧ R (dRange 0 n) (fun _ => True) M id
  | .range, [.int i, .int j] => (small62 i ∧ small62 j) ∧ R (dRange i j) (fun _ => True) M id
  | .enumerate, [.ref a] => (match M a with
    | some (.lst xs) => R (enumD xs) (fun M' => M' a = some (.lst xs)) M id
    | _ => False)
  | .reversed, [.ref a] => (match M a with
    | some (.lst xs) => R xs.reverse (fun M' => M' a = some (.lst xs)) M id
    | _ => False)
  | .items, [.ref a] => (match M a with
    | some (.dct kvs) => wpItD (·.map fun p => .tup [p.1, p.2]) a kvs M R
    | _ => False)
  | .zip, [.ref a, .ref b] => (match M a, M b with
    | some (.lst xs), some (.lst ys) => R ((xs.zip ys).map fun p => .tup [p.1, p.2]) (fun M' => M' a = some (.lst xs) ∧ M' b = some (.lst ys)) M id
    | _, _ => False)
  | _, _ => False

/-! ### targets -/
def setMany : List Nat → List D → Lo → Option Lo
  | [], [], σ => some σ
  | i :: is, d :: ds, σ => setMany is ds (σ.set i (some d))
  | _, _, _ => none
def wpTg (t : Tg) (d : D) (σ : Lo) (M : Mp) (k : Lo → Prop) : Prop := match t with
  | .one i => k (σ.set i (some d))
  | .many l => match d with
    | .tup ds => ∃ σ', setMany l ds σ = some σ' ∧ k σ'
    | _ => False
def wipeL : List Nat → Lo → Lo
  | [], σ => σ
  | i :: is, σ => wipeL is (σ.set i none)

/-! ### built-ins -/
def allS : List D → Option (List Str)
  | [] => some []
  | .str x :: r => (allS r).map (x :: ·)
  | _ => none
def allI : List D → Option (List Int)
  | [] => some []
  | .int x :: r => (allI r).map (x :: ·)
  | _ => none
def isTy (d : D) (t : Ty) (M : Mp) : Bool := match t, d with
  | .int, .int _ => true
  | .int, .bl _ => true
  | .bool, .bl _ => true
  | .str, .str _ => true
  | .tuple, .tup _ => true
  | .list, .ref a => (match M a with
    | some (.lst _) => true
    | _ => false)
  | _, _ => false
def wpBlt (f : Blt) (ds : List D) (M : Mp) (Q : Post) : Prop := match f, ds with
  | .len, [.tup xs] => Q (.int xs.length) M
  | .len, [.kl xs] => Q (.int xs.length) M
  | .len, [.str x] => x.length ≤ sizeLine ∧ Q (.int x.length) M
  | .len, [.ref a] => (match M a with
    | some (.lst xs) => Q (.int xs.length) M
    | _ => False)
  | .int, [.int i] => Q (.int i) M
  | .int, [.bl b] => Q (.int (if b = true then 1 else 0)) M
  | .repr, [d] => ∃ p, Deep M d p ∧ p.showable = true ∧ p.shown.length ≤ sizeLine ∧ p.depth ≤ 40 ∧ Q (.str p.shown) M
  | .max, [.int i, .int j] => Q (.int (if j > i then j else i)) M
  | .min, [.int i, .int j] => Q (.int (if j < i then j else i)) M
  | .abs, [.int i] => Q (.int (if i < 0 then -i else i)) M
  | .str, [.int i] => i.natAbs.log2 < 1920 ∧ Q (.str (toString i)) M
  | _, _ => False
/-- an order of keys: ints, texts, tuples of them item by item -/
def wpSeq (f : SeqF) (xs : List D) (M : Mp) (Q : Post) : Prop := match f with
  | .list => xs.length ≤ sizeLine ∧ wpNew M (.lst xs) Q
  | .tuple => xs.length ≤ sizeLine ∧ Q (.tup xs) M
  | .sum => ∃ is, allI xs = some is ∧ Q (.int is.sum) M
  | _ => False
def wpExt (ds : List D) (a : Addr) (y : D) (M : Mp) (Q : Post) : Prop := match y with
  | .ref b => (match M b with
    | some (.lst ys) => ds.length + ys.length ≤ sizeLine ∧ Q .non (mset M a (.lst (ds ++ ys)))
    | _ => False)
  | _ => False
inductive RK where
  | lst | dct | str | tup
/-- what a receiver is when the arguments have not come -/
def rcv (x : D) (M : Mp) : Option RK := match x with
  | .str _ => some .str
  | .tup _ => some .tup
  | .ref a => (match M a with
    | some (.lst _) => some .lst
    | some (.dct _) => some .dct
    | some (.lck _) => some .dct
    | _ => none)
  | _ => none
/-- which methods are told -/
def mok : Option RK → Mth → Bool
  | some .lst, .append => true
  | some .lst, .extend => true
  | some .str, .index => true
  | _, _ => false
def wpMth (m : Mth) (o : D) (args : List D) (M : Mp) (Q : Post) : Prop := match o with
  | .ref a => (match M a with
    | some (.lst ds) => (match m, args with
      | .append, [d] => ds.length < sizeLine ∧ Q .non (mset M a (.lst (ds ++ [d])))
      | .extend, [y] => wpExt ds a y M Q
      | .pop, [] => ∃ ys d, ds = ys ++ [d] ∧ Q d (mset M a (.lst ys))
      | .pop, [.int i] => ∃ d, 0 ≤ i ∧ ds[i.toNat]? = some d ∧ Q d (mset M a (.lst (ds.eraseIdx i.toNat)))
      | .index, [d] => (d.flat = true ∧ ∀ z ∈ ds, z.flat = true) ∧ ∃ i, (ds.findIdx? fun z => z.eqv d) = some i ∧ Q (.int i) M
      | _, _ => False)
    | _ => False)
  | .str x => (match m, args with
    | .join, [.ref a] => (match M a with
      | some (.lst ds) => ∃ ys, allS ds = some ys ∧ (ys.map (·.length)).sum + ys.length * x.length ≤ 16777216 ∧ Q (.str (Txt.join x ys)) M
      | _ => False)
    | .index, [.str y] => ∃ (i : Nat) (r : List Nat), Builtin.Str.occurrences x y 0 x.length 1 = i :: r ∧ Q (.int i) M
    | .split, [.str y] => (y.length ≠ 0 ∧ x.length + 2 ≤ sizeLine) ∧ wpNew M (.lst ((Txt.split x y).map .str)) Q
    | _, _ => False)
  | .tup ds => (match m, args with
    | .index, [d] => ∃ (ys : List Str) (z : Str) (j : Nat), ds = ys.map .str ∧ d = .str z ∧ ys[j]? = some z ∧ (∀ m, m < j → ys[m]? ≠ some z) ∧ Q (.int j) M
    | _, _ => False)
  | _ => False
/-- o[i] = v -/
def wpSetIx (o i v : D) (M : Mp) (k : Mp → Prop) : Prop := match o with
  | .ref a => (match M a with
    | some (.lst ds) => (match i with
      | .int i => (0 ≤ i ∧ i < ds.length) ∧ k (mset M a (.lst (ds.set i.toNat v)))
      | _ => False)
    | some (.dct kvs) => (i.hk1 = true ∧ kvs.length < sizeLine) ∧ k (mset M a (.dct (dput kvs i v)))
    | _ => False)
  | _ => False
def wpDel (o i : D) (M : Mp) (k : Mp → Prop) : Prop := match o with
  | .ref a => (match M a with
    | _ => False)
  | _ => False
def putFd (f : Str) (v : D) : List (Str × D) → List (Str × D)
  | [] => [(f, v)]
  | (g, x) :: r => if g = f then (g, v) :: r else (g, x) :: putFd f v r
def wpSetFld (P : Pr) (o : D) (f : Str) (v : D) (M : Mp) (k : Mp → Prop) : Prop := match o with
  | .ref a => (match M a with
    | some (.ins c fs) => (P.fl c f = true ∧ fs.length < 900) ∧ k (mset M a (.ins c (putFd f v fs)))
    | _ => False)
  | _ => False
/-- a dict display's pairs, put in one behind the other -/
def pairsD : List D → Option (List (D × D))
  | [] => some []
  | k :: v :: r => (pairsD r).map ((k, v) :: ·)
  | _ => none
def wpDisp (ds : List D) (M : Mp) (Q : Post) : Prop := ds = [] ∧ wpNew M (.dct []) Q

/-! ### loops -/
/-- a comprehension's items: body tells for each whether it comes in -/
def compL (body : D → Mp → (Option D → Mp → Prop) → Prop) (G : Mp → Prop) : List D → List D → Mp → (List D → Mp → Prop) → Prop
  | [], acc, M, Q => G M ∧ Q acc M
  | x :: xs, acc, M, Q => G M ∧ body x M fun r M1 => compL body G xs (match r with | some d => acc ++ [d] | none => acc) M1 Q
/-- .. of a dict comprehension -/
def dcompL (body : D → Mp → (Option (D × D) → Mp → Prop) → Prop) (G : Mp → Prop) : List D → List (D × D) → Mp → (List (D × D) → Mp → Prop) → Prop
  | [], acc, M, Q => G M ∧ Q acc M
  | x :: xs, acc, M, Q => G M ∧ body x M fun r M1 => match r with
    | none => dcompL body G xs acc M1 Q
    | some p => (p.1.hk1 = true ∧ acc.length < sizeLine) ∧ dcompL body G xs (dput acc p.1 p.2) M1 Q
/-- any, all -/
def genL (all : Bool) (body : D → Mp → (Bool → Mp → Prop) → Prop) (G : Mp → Prop) : List D → Mp → (Bool → Mp → Prop) → Prop
  | [], M, Q => G M ∧ Q all M
  | x :: xs, M, Q => G M ∧ body x M fun b M1 => if b = all then genL all body G xs M1 Q else Q (!all) M1

structure Ends where
  nx : Lo → Mp → Prop
  rt : Post
  bk : Lo → Mp → Prop := fun _ _ => False
  ct : Lo → Mp → Prop := fun _ _ => False
def forL (t : Tg) (body : Ends → Lo → Mp → Prop) (G : Mp → Prop) (K : Ends) : List D → Lo → Mp → Prop
  | [], σ, M => G M ∧ K.nx σ M
  | x :: xs, σ, M => G M ∧ wpTg t x σ M fun σ1 => body ⟨forL t body G K xs, K.rt, K.nx, forL t body G K xs⟩ σ1 M
def whL (c : Lo → Mp → (Bool → Mp → Prop) → Prop) (body : Ends → Lo → Mp → Prop) (D : Ends) : Nat → Lo → Mp → Prop
  | 0, _, _ => False
  | n + 1, σ, M => c σ M fun b M1 => if b = true then body ⟨whL c body D n, D.rt, D.nx, whL c body D n⟩ σ M1 else D.nx σ M1

/-! ### weakest preconditions; X: what is wanted of an exception -/
abbrev Xp := D → Mp → Prop
mutual
def wpE (P : Pr) (X : Xp) : E → Lo → Mp → Post → Prop
  | .var i, σ, M, Q => ∃ d, σ[i]? = some (some d) ∧ Q d M
  | .int i, _, M, Q => Q (.int i) M
  | .str x, _, M, Q => Q (.str x) M
  | .bl b, _, M, Q => Q (.bl b) M
  | .non, _, M, Q => Q .non M
  | .con d, _, M, Q => Q d M
  | .bin o a b, σ, M, Q => wpE P X a σ M fun x M1 => wpE P X b σ M1 fun y M2 => wpBin o x y M2 Q
  | .un o a, σ, M, Q => wpE P X a σ M fun x M1 => wpUn o x M1 Q
  | .cmp o a b, σ, M, Q => wpE P X a σ M fun x M1 => wpE P X b σ M1 fun y M2 => wpCmp o x y M2 fun r => Q (.bl r) M2
  | .cmp2 o o' a b c, σ, M, Q => wpE P X a σ M fun x M1 => wpE P X b σ M1 fun y M2 => wpCmp o x y M2 fun r =>
      if r = true then wpE P X c σ M2 fun z M3 => wpCmp o' y z M3 fun r' => Q (.bl r') M3 else Q (.bl false) M2
  | .and a b, σ, M, Q => wpE P X a σ M fun x M1 => truthy x M1 fun r => if r = true then wpE P X b σ M1 Q else Q x M1
  | .or a b, σ, M, Q => wpE P X a σ M fun x M1 => truthy x M1 fun r => if r = true then Q x M1 else wpE P X b σ M1 Q
  | .not a, σ, M, Q => wpE P X a σ M fun x M1 => truthy x M1 fun r => Q (.bl (!r)) M1
  | .ite c a b, σ, M, Q => wpT P X c σ M fun r M1 => if r = true then wpE P X a σ M1 Q else wpE P X b σ M1 Q
  | .tup es, σ, M, Q => wpEs P X es σ M fun ds M1 => ds.length ≤ sizeLine ∧ Q (.tup ds) M1
  | .lst es, σ, M, Q => wpEs P X es σ M fun ds M1 => ds.length ≤ sizeLine ∧ wpNew M1 (.lst ds) Q
  | .dct es, σ, M, Q => wpEs P X es σ M fun ds M1 => wpDisp ds M1 Q
  | .call f es, σ, M, Q => wpEs P X es σ M fun ds M1 => P.sp f ds M1 Q X
  | .blt f es, σ, M, Q => wpEs P X es σ M fun ds M1 => wpBlt f ds M1 Q
  | .seq f k es, σ, M, Q => wpEs P X es σ M fun ds M1 => wpIt k ds M1 fun xs _ _ _ => wpSeq f xs M1 Q
  | .inst a t, σ, M, Q => wpE P X a σ M fun x M1 => Q (.bl (isTy x t M1)) M1
  | .mth o m es, σ, M, Q => wpE P X o σ M fun x M1 => mok (rcv x M1) m = true ∧ wpEs P X es σ M1 fun ds M2 => rcv x M2 = rcv x M1 ∧ wpMth m x ds M2 Q
  | .umth o m c f es, σ, M, Q => wpE P X o σ M fun x M1 => (∃ a fs, x = .ref a ∧ M1 a = some (.ins c fs) ∧ fs.lookup m = none) ∧ wpEs P X es σ M1 fun ds M2 => P.sp f (x :: ds) M2 Q X
  | .make c f es, σ, M, Q => wpEs P X es σ M fun ds M1 => ∀ p, M1 p = none → P.sp f (.ref p :: ds) (mset M1 p (.ins c [])) (fun d M2 => d = .non ∧ Q (.ref p) M2) X
  | .ix a b, σ, M, Q => wpE P X a σ M fun x M1 => wpE P X b σ M1 fun y M2 => wpIx x y M2 Q
  | .sl a lo hi, σ, M, Q => wpE P X a σ M fun x M1 => wpE P X lo σ M1 fun l M2 => wpE P X hi σ M2 fun h M3 => wpSl x l h M3 Q
  | .fld a f, σ, M, Q => wpE P X a σ M fun x M1 => wpFld P x f M1 Q
  | .comp own elt t k es c, σ, M, Q => wpEs P X es σ M fun ds M1 => wpIt k ds M1 fun xs G M2 fin =>
      compL (fun x M kk => wpTg t x (wipeL own σ) M fun σ1 => wpT P (fun _ _ => False) c σ1 M fun r M3 => if r = true then wpE P (fun _ _ => False) elt σ1 M3 fun d M4 => kk (some d) M4 else kk none M3) G xs [] M2
        fun acc M5 => acc.length ≤ sizeLine ∧ wpNew (fin M5) (.lst acc) Q
  | .dcomp own kx vx t k es c, σ, M, Q => wpEs P X es σ M fun ds M1 => wpIt k ds M1 fun xs G M2 fin =>
      dcompL (fun x M kk => wpTg t x (wipeL own σ) M fun σ1 => wpT P (fun _ _ => False) c σ1 M fun r M3 => if r = true then wpE P (fun _ _ => False) kx σ1 M3 fun d M4 => wpE P (fun _ _ => False) vx σ1 M4 fun d' M5 => kk (some (d, d')) M5 else kk none M3) G xs [] M2
        fun acc M5 => wpNew (fin M5) (.dct acc) Q
  | .gen all own elt t k es, σ, M, Q => wpEs P X es σ M fun ds M1 => wpIt k ds M1 fun xs G M2 fin =>
      genL all (fun x M kk => wpTg t x (wipeL own σ) M fun σ1 => wpE P (fun _ _ => False) elt σ1 M fun d M4 => truthy d M4 fun b => kk b M4) G xs M2 fun b M5 => Q (.bl b) (fin M5)
  | .disp tbl key es, σ, M, Q => wpE P X key σ M fun x M1 => match x with
    | .str z => ∃ f, P.tab tbl z = some f ∧ wpEs P X es σ M1 fun ds M2 => P.sp f ds M2 Q X
    | _ => False
  | .cidx ds es, σ, M, Q => wpEs P X es σ M fun args M1 => ∃ (ys : List Str) (z : Str) (j : Nat), args = [.str z] ∧ ds = ys.map .str ∧ ys[j]? = some z ∧ (∀ m, m < j → ys[m]? ≠ some z) ∧ Q (.int j) M1
  | .bad, _, _, _ => False
def wpEs (P : Pr) (X : Xp) : Es → Lo → Mp → (List D → Mp → Prop) → Prop
  | .nil, _, M, Q => Q [] M
  | .cons e es, σ, M, Q => wpE P X e σ M fun d M1 => wpEs P X es σ M1 fun ds M2 => Q (d :: ds) M2
def wpT (P : Pr) (X : Xp) : T → Lo → Mp → (Bool → Mp → Prop) → Prop
  | .tt, _, M, k => k true M
  | .val e, σ, M, k => wpE P X e σ M fun x M1 => truthy x M1 fun r => k r M1
  | .and a b, σ, M, k => wpT P X a σ M fun r M1 => if r = true then wpT P X b σ M1 k else k false M1
  | .or a b, σ, M, k => wpT P X a σ M fun r M1 => if r = true then k true M1 else wpT P X b σ M1 k
  | .not a, σ, M, k => wpT P X a σ M fun r M1 => k (!r) M1
end
mutual
def wpS (P : Pr) : S → (D → Lo → Mp → Prop) → Ends → Lo → Mp → Prop
  | .expr e, X, D, σ, M => wpE P (fun x M => X x σ M) e σ M fun _ M1 => D.nx σ M1
  | .ret e, X, D, σ, M => wpE P (fun x M => X x σ M) e σ M D.rt
  | .set t e, X, D, σ, M => wpE P (fun x M => X x σ M) e σ M fun d M1 => wpTg t d σ M1 fun σ1 => D.nx σ1 M1
  | .setIx a b e, X, D, σ, M => wpE P (fun x M => X x σ M) e σ M fun v M1 => wpE P (fun x M => X x σ M) a σ M1 fun o M2 => wpE P (fun x M => X x σ M) b σ M2 fun i M3 => wpSetIx o i v M3 (D.nx σ)
  | .setFld a f e, X, D, σ, M => wpE P (fun x M => X x σ M) e σ M fun v M1 => wpE P (fun x M => X x σ M) a σ M1 fun o M2 => wpSetFld P o f v M2 (D.nx σ)
  | .aug i o e, X, D, σ, M => ∃ d, σ[i]? = some (some d) ∧ wpE P (fun x M => X x σ M) e σ M fun y M1 => wpInp o d y M1 fun z M2 => D.nx (σ.set i (some z)) M2
  | .augFld a f o e, X, D, σ, M => wpE P (fun x M => X x σ M) a σ M fun x M1 => wpFld P x f M1 fun v M1 => wpE P (fun x M => X x σ M) e σ M1 fun y M2 => wpInp o v y M2 fun z M3 => wpSetFld P x f z M3 (D.nx σ)
  | .delIx a b, X, D, σ, M => wpE P (fun x M => X x σ M) a σ M fun o M1 => wpE P (fun x M => X x σ M) b σ M1 fun i M2 => wpDel o i M2 (D.nx σ)
  | .ite c a b, X, D, σ, M => wpT P (fun x M => X x σ M) c σ M fun r M1 => if r = true then wpSs P a X D σ M1 else wpSs P b X D σ M1
  | .wh c b, X, D, σ, M => ∃ n, whL (fun σ M k => wpT P (fun x M => X x σ M) c σ M k) (fun D σ M => wpSs P b X D σ M) D n σ M
  | .for t k es b, X, D, σ, M => wpEs P (fun x M => X x σ M) es σ M fun ds M1 => wpIt k ds M1 fun xs G M2 fin =>
      forL t (fun D σ M => wpSs P b (fun x σ M => X x σ (fin M)) D σ M) G ⟨fun σ M => D.nx σ (fin M), fun d M => D.rt d (fin M), fun σ M => D.nx σ (fin M), fun _ _ => False⟩ xs σ M2
  | .brk, _, D, σ, M => D.bk σ M
  | .cnt, _, D, σ, M => D.ct σ M
  | .pass, _, D, σ, M => D.nx σ M
  | .raise c es, X, _, σ, M => wpEs P (fun x M => X x σ M) es σ M fun ds M1 => X (.exn c ds) σ M1
  | .tryE b c i h, X, D, σ, M => wpSs P b (fun x σ1 M1 => match x with
    | .exn c' ds => if P.sub c' c = true then
        (match i with
        | some i => wpSs P h X ⟨fun σ2 M2 => D.nx (σ2.set i none) M2, D.rt, fun σ2 M2 => D.bk (σ2.set i none) M2, fun σ2 M2 => D.ct (σ2.set i none) M2⟩ (σ1.set i (some x)) M1
        | none => wpSs P h X D σ1 M1)
      else X x σ1 M1
    | _ => False) D σ M
  | .bad, _, _, _, _ => False
def wpSs (P : Pr) : Ss → (D → Lo → Mp → Prop) → Ends → Lo → Mp → Prop
  | .nil, _, D, σ, M => D.nx σ M
  | .cons s ss, X, D, σ, M => wpS P s X { D with nx := fun σ1 M1 => wpSs P ss X D σ1 M1 } σ M
end
/-- a def keeps its promise: n names, a body -/
def startL (n : Nat) (ds : List D) : Lo := ds.map some ++ List.replicate (n - ds.length) none
def Keeps (P : Pr) (sp : Spec) (n : Nat) (body : Ss) : Prop :=
  ∀ ds M Q X, sp ds M Q X → wpSs P body (fun x _ M => X x M) ⟨fun _ M => Q .non M, Q, fun _ _ => False, fun _ _ => False⟩ (startL n ds) M
end L3
end
section
set_option autoImplicit false
set_option linter.all false
set_option maxRecDepth 100000
/-! L3: from the text's syntax to the small language -/
namespace L3
open PySem

/-- what a name of the module is -/
inductive GR where
  | fn (i : Nat)
  | cls (c f : Nat)
  | mth (c f : Nat)
  | con (d : D)
  | blt
  | tab (t : Nat)
  | exc (c : Nat)
structure CC where
  N : List Str
  sc : Scope
  gl : List (Str × GR)
  /-- cells are its own -/
  cs : Bool := true
/-- the scope of a block as it runs -/
def relC (scope sc : Scope) : Scope :=
  { scope with names := scope.names.map fun (n, k) => if (k == .free && sc.kind == .function && sc.names.lookup n == some .cell) then (n, .cell) else (n, k) }
def ownC (N : List Str) (scope : Scope) : List (Str × Nat) := scope.names.filterMap fun y => if y.2 == .local || y.2 == .cell then (N.findIdx? (· == y.1)).map fun i => (y.1, i) else none
def blkB (N : List Str) (sc scope : Scope) : Bool :=
  decide (scope.kind = .function) && scope.names.all (fun y => decide (scope.names.lookup y.1 = some y.2)) && scope.names.all (fun y => !decide (y.2 = .free) || (decide (sc.names.lookup y.1 = some .cell) || decide (sc.names.lookup y.1 = some .free))) &&
    scope.names.all fun y => !(decide (y.2 = .local) || decide (y.2 = .cell)) || (((ownC N scope).map (·.1)).contains y.1 || !N.contains y.1)
/-- a method's key among the names -/
def dotted (m : Str) : Str := ⟨#[46] ++ m.cps⟩
def CC.slot (cc : CC) (x : Str) : Option Nat :=
  if x == "__debug__" || x == "__classdict__" then none else
  match cc.sc.names.lookup x with
  | some .local => cc.N.findIdx? (· == x)
  | some .cell => cc.N.findIdx? (· == x)
  | some .free => cc.N.findIdx? (· == x)
  | _ => none
/-- a slot that may be stored to -/
def CC.slotW (cc : CC) (x : Str) : Option Nat :=
  match cc.sc.names.lookup x with
  | some .local => cc.N.findIdx? (· == x)
  | some .cell => if cc.cs then cc.N.findIdx? (· == x) else none
  | _ => none
def CC.glob (cc : CC) (x : Str) : Option GR :=
  if x == "__debug__" || x == "__name__" then none else
  match cc.sc.names.lookup x with
  | some .globalImplicit => cc.gl.lookup x
  | _ => none
def cBop : Operator → Option BOp
  | .Add => some .add
  | .Sub => some .sub
  | .Mult => some .mul
  | .FloorDiv => some .fdiv
  | .Mod => some .mod
  | .Pow => some .pow
  | .LShift => some .shl
  | .RShift => some .shr
  | _ => none
def cCop : CmpOp → COp
  | .Eq => .eq
  | .NotEq => .ne
  | .Lt => .lt
  | .LtE => .le
  | .Gt => .gt
  | .GtE => .ge
  | .In => .isIn
  | .NotIn => .notIn
  | .Is => .is
  | .IsNot => .isNot
def cBlt (x : Str) : Option Blt :=
  if x == "len" then some .len
  else if x == "int" then some .int
  else if x == "repr" then some .repr
  else if x == "max" then some .max
  else if x == "min" then some .min
  else if x == "abs" then some .abs
  else if x == "str" then some .str
  else none
def cSeq (x : Str) : Option SeqF :=
  if x == "list" then some .list
  else if x == "tuple" then some .tuple
  else if x == "sorted" then some .sorted
  else if x == "sum" then some .sum
  else none
def cMth (x : Str) : Option Mth :=
  if x == "append" then some .append
  else if x == "extend" then some .extend
  else if x == "pop" then some .pop
  else if x == "index" then some .index
  else if x == "get" then some .get
  else if x == "join" then some .join
  else if x == "split" then some .split
  else none
def notStar : Expr → Bool
  | .Starred .. => false
  | _ => true
def notSlice : Expr → Bool
  | .Slice .. => false
  | _ => true
/-- a target -/
def cTgs (cc : CC) : List Expr → Option (List Nat)
  | [] => some []
  | .Name x _ :: r => (match cc.slotW x, cTgs cc r with
    | some i, some l => some (i :: l)
    | _, _ => none)
  | _ => none
def cTg (cc : CC) (t : Expr) : Option Tg := match t with
  | .Name x _ => (match cc.slotW x with
    | some i => some (.one i)
    | none => none)
  | .Tuple es _ _ => (match cTgs cc es with
    | some l => some (.many l)
    | none => none)
  | _ => none
def isTupE : Expr → Bool
  | .Tuple .. => true
  | _ => false
/-- pairs come as tuples of their own: a tuple must take them -/
def itOk (k : ItK) (tg : Expr) : Bool := match k with
  | .items => isTupE tg
  | _ => true
/-- no call without arguments of a name: super() stands apart -/
def noSuper : Expr → Bool
  | .Call (.Name ..) [] [] _ => false
  | _ => true
/-- an expression whose test is its value's truth -/
def plainTest : Expr → Bool
  | .Name .. => true
  | .Call .. => true
  | .Subscript .. => true
  | .Attribute .. => true
  | .Constant .. => true
  | _ => false
def noComp : Expr → Bool
  | .ListComp .. => false
  | .SetComp .. => false
  | .DictComp .. => false
  | _ => true
def noSet : Expr → Bool
  | .Set .. => false
  | _ => true
mutual
def cE : Nat → CC → Expr → Option E
  | 0, _, _ => none
  | n + 1, cc, e => match e with
    | .Name x _ => (match cc.slot x with
      | some i => some (.var i)
      | none => match cc.glob x with
        | some (.con d) => some (.con d)
        | _ => none)
    | .Constant c _ _ => (match c with
      | .int i => some (.int i)
      | .bool b => some (.bl b)
      | .str x => some (.str x)
      | .none => some .non
      | _ => none)
    | .BinOp a o b _ => (match cBop o, cE n cc a, cE n cc b with
      | some o', some a', some b' => some (.bin o' a' b')
      | _, _, _ => none)
    | .UnaryOp .Not a _ => (match cE n cc a with
      | some a' => some (.not a')
      | _ => none)
    | .UnaryOp .USub a _ => (match cE n cc a with
      | some a' => some (.un .neg a')
      | _ => none)
    | .Compare a [o] [b] _ => if behindInMarks o b then none else (match cE n cc a, cE n cc b with
      | some a', some b' => some (.cmp (cCop o) a' b')
      | _, _ => none)
    | .Compare a [o, o'] [b, c] _ => if lastMarks [o, o'] [b, c] then none else (match cE n cc a, cE n cc b, cE n cc c with
      | some a', some b', some c' => some (.cmp2 (cCop o) (cCop o') a' b' c')
      | _, _, _ => none)
    | .BoolOp _ [a] _ => cE n cc a
    | .BoolOp .And (a :: b :: r) p => (match cE n cc a, cE n cc (.BoolOp .And (b :: r) p) with
      | some a', some b' => some (.and a' b')
      | _, _ => none)
    | .BoolOp .Or (a :: b :: r) p => (match cE n cc a, cE n cc (.BoolOp .Or (b :: r) p) with
      | some a', some b' => some (.or a' b')
      | _, _ => none)
    | .IfExp c a b _ => (match cT n cc c, cE n cc a, cE n cc b with
      | some c', some a', some b' => some (.ite c' a' b')
      | _, _, _ => none)
    | .Tuple es _ _ => (match cEs n cc es with
      | some es' => some (.tup es')
      | _ => none)
    | .List es _ => (match cEs n cc es with
      | some es' => some (.lst es')
      | _ => none)
    | .Subscript a b _ => if notSlice b then (match cE n cc a, cE n cc b with
      | some a', some b' => some (.ix a' b')
      | _, _ => none) else none
    | .Dict [] [] _ => some (.dct .nil)
    | .Attribute o f _ => if noSuper o then (match cE n cc o with
      | some o' => some (.fld o' f)
      | none => none) else none
    | .DictComp kx vx [⟨tg, it, ifs, 0⟩] scope _ => if blkB cc.N cc.sc scope then (match cI n cc it, cTg { cc with sc := relC scope cc.sc, cs := false } tg, cIf n { cc with sc := relC scope cc.sc, cs := false } ifs, cE n { cc with sc := relC scope cc.sc, cs := false } kx, cE n { cc with sc := relC scope cc.sc, cs := false } vx with
      | some (k, es'), some t', some c', some kx', some vx' => if itOk k tg && t'.sl.all (fun i => ((ownC cc.N scope).map (·.2)).contains i) then some (.dcomp ((ownC cc.N scope).map (·.2)) kx' vx' t' k es' c') else none
      | _, _, _, _, _ => none) else none
    | .Call (.Name f _) es [] _ => (match cc.glob f, cEs n cc es with
      | some (.fn i), some es' => some (.call i es')
      | some (.cls c i), some es' => some (.make c i es')
      | some .blt, some es' => (match cBlt f with
        | some b => (match es with
          | [] => none
          | _ => some (.blt b es'))
        | none => none)
      | _, _ => none)
    | .Call (.Attribute (.Name x np) m ap) es [] cp => if m == "index" && (ap.endLine == cp.line) && decide (es.length = 1) then (match cc.glob x, cEs n cc es with
      | some (.con (.tup ds)), some es' => some (.cidx ds es')
      | some (.con (.str z)), some es' => some (.mth (.con (.str z)) .index es')
      | _, _ => none) else (match cMth m, cE n cc (.Name x np), cEs n cc es with
      | some m', some o', some es' => if (ap.endLine == cp.line) && decide (es.length < 25) then some (.mth o' m' es') else none
      | none, some o', some es' => if (ap.endLine == cp.line) && decide (es.length < 25) then (match cc.gl.lookup (dotted m) with
        | some (.mth c f) => some (.umth o' m c f es')
        | _ => none) else none
      | _, _, _ => none)
    | .Call (.Attribute o m ap) es [] cp => if noSuper o && (ap.endLine == cp.line) && decide (es.length < 25) then (match cMth m, cE n cc o, cEs n cc es with
      | some m', some o', some es' => some (.mth o' m' es')
      | none, some o', some es' => (match cc.gl.lookup (dotted m) with
        | some (.mth c f) => some (.umth o' m c f es')
        | _ => none)
      | _, _, _ => none) else none
    | _ => none
def cEs : Nat → CC → List Expr → Option Es
  | 0, _, _ => none
  | _ + 1, _, [] => some .nil
  | n + 1, cc, e :: es => if notStar e then (match cE n cc e, cEs n cc es with
    | some e', some es' => some (.cons e' es')
    | _, _ => none) else none
def cT : Nat → CC → Expr → Option T
  | 0, _, _ => none
  | n + 1, cc, e => match e with
    | .BoolOp _ [a] _ => cT n cc a
    | .BoolOp .And (a :: b :: r) p => (match cT n cc a, cT n cc (.BoolOp .And (b :: r) p) with
      | some a', some b' => some (.and a' b')
      | _, _ => none)
    | .BoolOp .Or (a :: b :: r) p => (match cT n cc a, cT n cc (.BoolOp .Or (b :: r) p) with
      | some a', some b' => some (.or a' b')
      | _, _ => none)
    | .UnaryOp .Not a _ => (match cT n cc a with
      | some a' => some (.not a')
      | _ => none)
    | .Compare a [o] [b] _ => if behindInMarks o b then none else (match cE n cc a, cE n cc b with
      | some a', some b' => some (.val (.cmp (cCop o) a' b'))
      | _, _ => none)
    | .Compare a [o, o'] [b, c] _ => if lastMarks [o, o'] [b, c] then none else (match cE n cc a, cE n cc b, cE n cc c with
      | some a', some b', some c' => some (.val (.cmp2 (cCop o) (cCop o') a' b' c'))
      | _, _, _ => none)
    | e => if plainTest e then (match cE n cc e with
      | some e' => some (.val e')
      | _ => none) else none
/-- the tests of a comprehension -/
def cIf : Nat → CC → List Expr → Option T
  | 0, _, _ => none
  | _ + 1, _, [] => some .tt
  | n + 1, cc, [c] => cT n cc c
  | _, _, _ => none
/-- what a loop walks -/
def cI : Nat → CC → Expr → Option (ItK × Es)
  | 0, _, _ => none
  | n + 1, cc, e => match e with
  | .Call (.Attribute o m ap) [] [] cp => if m == "items" && noSuper o && (ap.endLine == cp.line) then (match cE n cc o with
    | some o' => some (.items, .cons o' .nil)
    | none => none) else none
  | .Call (.Name f _) es [] _ => (match cc.glob f, cEs n cc es with
    | some .blt, some es' => if f == "range" then (match es with
        | [_] => some (.range, es')
        | [_, _] => some (.range, es')
        | _ => none)
      else if f == "reversed" then (match es with
        | [_] => some (.reversed, es')
        | _ => none)
      else none
    | some (.fn i), some es' => some (.plain, .cons (.call i es') .nil)
    | _, _ => none)
  | e => (match cE n cc e with
    | some e' => if noSet e then some (.plain, .cons e' .nil) else none
    | none => none)
end
mutual
def cS : Nat → CC → Stmt → Option S
  | 0, _, _ => none
  | n + 1, cc, s => match s with
    | .Expr e _ => if noComp e then (match cE n cc e with
      | some e' => some (.expr e')
      | none => none) else none
    | .Return (some e) _ => (match cE n cc e with
      | some e' => some (.ret e')
      | none => none)
    | .Assign [.Name x _] e _ => if noComp e then (match cc.slotW x, cE n cc e with
      | some i, some e' => some (.set (.one i) e')
      | _, _ => none) else none
    | .Assign [.Tuple ts k p] e _ => if noComp e && !isTupE e then (match cTg cc (.Tuple ts k p), cE n cc e with
      | some t, some e' => some (.set t e')
      | _, _ => none) else none
    | .Assign [.Attribute o f _] e _ => if noSuper o then (match cE n cc o, cE n cc e with
      | some o', some e' => some (.setFld o' f e')
      | _, _ => none) else none
    | .AugAssign (.Attribute a f _) o e _ => (match cE n cc a, cBop o, cE n cc e with
      | some a', some o', some e' => some (.augFld a' f o' e')
      | _, _, _ => none)
    | .Assign [.Subscript a b _] e _ => if notSlice b && noComp e then (match cE n cc a, cE n cc b, cE n cc e with
      | some a', some b', some e' => some (.setIx a' b' e')
      | _, _, _ => none) else none
    | .AugAssign (.Name x _) o e _ => (match cc.slotW x, cBop o, cE n cc e with
      | some i, some o', some e' => some (.aug i o' e')
      | _, _, _ => none)
    | .If c a b _ => (match cT n cc c, cSs n cc a, cSs n cc b with
      | some c', some a', some b' => some (.ite c' a' b')
      | _, _, _ => none)
    | .While c b [] _ => (match cT n cc c, cSs n cc b with
      | some c', some b' => some (.wh c' b')
      | _, _ => none)
    | .For t i b [] _ => (match cTg cc t, cI n cc i, cSs n cc b with
      | some t', some (k, es'), some b' => if itOk k t then some (.for t' k es' b') else none
      | _, _, _ => none)
    | .Pass _ => some .pass
    | .Break _ => some .brk
    | .Continue _ => some .cnt
    | _ => none
def cSs : Nat → CC → List Stmt → Option Ss
  | 0, _, _ => none
  | _ + 1, _, [] => some .nil
  | n + 1, cc, s :: ss => (match cSs n cc ss with
    | some ss' => some (.cons ((cS n cc s).getD .bad) ss')
    | none => none)
end
end L3
end
section
set_option autoImplicit false
set_option linter.all false
set_option maxRecDepth 100000
/-! L3: how the values and the heap of the small language lie in the hand layer's -/
namespace L3
open PySem L2

/-- the written part, the classes' addresses -/
structure Ct where
  P : Program
  w : World
  K : PySem.W.Frag
  ca : Nat → Addr

/-- a list that nothing changes -/
def SqF (K : PySem.W.Frag) (H : Hp) (a : Addr) (xs : List V) : Prop :=
  (∃ ob, H a = some (.frz ob (.lst xs))) ∨
    ∃ (o : Obj) (its : Array Value) (n : Nat), K.lookup a = some o ∧ o.cls = .type "list" ∧ o.dict = none ∧ o.data = .seq its n ∧ its.size ≤ sizeLine ∧ Vals xs its.toList
theorem SqF.sq {K : PySem.W.Frag} {H : Hp} {a : Addr} {xs : List V} (h : SqF K H a xs) : SqL K H a xs := by
  rcases h with ⟨ob, h⟩ | h
  · exact .inl (.inr ⟨ob, h⟩)
  · exact .inr h
mutual
def RD (C : Ct) (H : Hp) : D → V → Prop
  | .non, v => v = .non
  | .bl b, v => v = .bl b
  | .int i, v => v = .int i
  | .str x, v => v = .str x
  | .tup ds, v => ∃ a xs, v = .ref a ∧ SqT C.K H a xs ∧ RDs C H ds xs
  | .ref a, v => v = .ref a
  | .kl ds, v => ∃ a xs, v = .ref a ∧ SqF C.K H a xs ∧ RDs C H ds xs
  | .exn _ _, _ => False
def RDs (C : Ct) (H : Hp) : List D → List V → Prop
  | [], xs => xs = []
  | d :: ds, xs => ∃ x r, xs = x :: r ∧ RD C H d x ∧ RDs C H ds r
end
def KRel : D → Key → Prop
  | .int i, .inl j => i = j
  | .str x, .inr y => x = y
  | _, _ => False
def RDct (C : Ct) (H : Hp) (kvs : List (D × D)) (o : HO) : Prop :=
  ∃ ks : List (Key × V), o = .dK ks ∧ Paired (fun (p : D × D) (q : Key × V) => KRel p.1 q.1 ∧ RD C H p.2 q.2) kvs ks
def RO (C : Ct) (H : Hp) (a : Addr) : MO → HO → Prop
  | .lst ds, .lst xs => RDs C H ds xs
  | .dct kvs, o => RDct C H kvs o
  | .lck kvs, .frz _ o => RDct C H kvs o
  | .ins c fs, .ins B _ gs => C.ca c = B ∧ Paired (fun (p : Str × D) (q : Str × V) => p.1 = q.1 ∧ RD C H p.2 q.2) fs gs
  | _, _ => False
def RM (C : Ct) (H : Hp) (M : Mp) : Prop := ∀ a o, M a = some o → ∃ u, H a = some u ∧ RO C H a o u
/-- what is tracked, but not told in M, stays -/
def Stp (H : Hp) (M : Mp) (H' : Hp) (M' : Mp) : Prop := (∀ a o, H a = some o → M a = none → H' a = some o ∧ M' a = none) ∧ ∀ a ob u, H a = some (.frz ob u) → H' a = some (.frz ob u)
theorem Stp.refl {H : Hp} {M : Mp} : Stp H M H M := ⟨fun _ _ h n => ⟨h, n⟩, fun _ _ _ h => h⟩
theorem Stp.trans {H H1 H2 : Hp} {M M1 M2 : Mp} (a : Stp H M H1 M1) (b : Stp H1 M1 H2 M2) : Stp H M H2 M2 := ⟨fun c o h n => by
  obtain ⟨h1, n1⟩ := a.1 c o h n
  exact b.1 c o h1 n1, fun c ob u h => b.2 c ob u (a.2 c ob u h)⟩

theorem RO.notup {C : Ct} {H : Hp} {a : Addr} {o : MO} {xs : List V} (h : RO C H a o (.tup xs)) : False := by
  cases o with
  | dct kvs =>
    obtain ⟨ks, e, _⟩ := h; cases e
  | _ => exact h
theorem RO.nofrzt {C : Ct} {H : Hp} {a : Addr} {o : MO} {ob : Obj} {xs : List V} (h : RO C H a o (.frz ob (.tup xs))) : False := by
  cases o with
  | dct kvs => obtain ⟨ks, e, _⟩ := h; cases e
  | lck kvs => obtain ⟨ks, e, _⟩ := h; cases e
  | _ => exact h
theorem RO.nofrzl {C : Ct} {H : Hp} {a : Addr} {o : MO} {ob : Obj} {xs : List V} (h : RO C H a o (.frz ob (.lst xs))) : False := by
  cases o with
  | dct kvs => obtain ⟨ks, e, _⟩ := h; cases e
  | lck kvs => obtain ⟨ks, e, _⟩ := h; cases e
  | _ => exact h
section
variable {C : Ct} {H H' : Hp} {M M' : Mp}
theorem RM.frzl {a : Addr} {ob : Obj} {xs : List V} (r : RM C H M) (h : H a = some (.frz ob (.lst xs))) : M a = none := by
  cases e : M a with
  | none => rfl
  | some o =>
    obtain ⟨u, hu, ro⟩ := r a o e
    rw [h] at hu; cases hu
    exact ro.nofrzl.elim
theorem RM.tup {a : Addr} {xs : List V} (r : RM C H M) (h : H a = some (.tup xs)) : M a = none := by
  cases e : M a with
  | none => rfl
  | some o =>
    obtain ⟨u, hu, ro⟩ := r a o e
    rw [h] at hu; cases hu
    exact ro.notup.elim
theorem RM.frzt {a : Addr} {ob : Obj} {xs : List V} (r : RM C H M) (h : H a = some (.frz ob (.tup xs))) : M a = none := by
  cases e : M a with
  | none => rfl
  | some o =>
    obtain ⟨u, hu, ro⟩ := r a o e
    rw [h] at hu; cases hu
    exact ro.nofrzt.elim
/-- tuples and lists that nothing changes stay -/
def TupK0 (H H' : Hp) : Prop := (∀ a xs, Rd H a (.tup xs) → Rd H' a (.tup xs)) ∧ ∀ a ob xs, H a = some (.frz ob (.lst xs)) → H' a = some (.frz ob (.lst xs))
/-- .. and all that is frozen -/
def TupK (H H' : Hp) : Prop := (∀ a xs, Rd H a (.tup xs) → Rd H' a (.tup xs)) ∧ ∀ a ob u, H a = some (.frz ob u) → H' a = some (.frz ob u)
theorem TupK.weak (k : TupK H H') : TupK0 H H' := ⟨k.1, fun a ob xs h => k.2 a ob _ h⟩
theorem TupK.refl {H : Hp} : TupK H H := ⟨fun _ _ h => h, fun _ _ _ h => h⟩
theorem TupK.trans {H H1 H2 : Hp} (a : TupK H H1) (b : TupK H1 H2) : TupK H H2 := ⟨fun c xs h => b.1 c xs (a.1 c xs h), fun c ob xs h => b.2 c ob xs (a.2 c ob xs h)⟩
theorem Stp.tupK (r : RM C H M) (s : Stp H M H' M') : TupK H H' := ⟨fun a xs h => by
  rcases h with h | ⟨ob, h⟩
  · exact .inl (s.1 a _ h (r.tup h)).1
  · exact .inr ⟨ob, s.2 a ob _ h⟩, s.2⟩
theorem TupK0.sq (k : TupK0 H H') {K : PySem.W.Frag} {a : Addr} {xs : List V} (h : SqT K H a xs) : SqT K H' a xs := by
  rcases h with h | h
  · exact .inl (k.1 a xs h)
  · exact .inr h
theorem TupK0.sqf (k : TupK0 H H') {K : PySem.W.Frag} {a : Addr} {xs : List V} (h : SqF K H a xs) : SqF K H' a xs := by
  rcases h with ⟨ob, h⟩ | h
  · exact .inl ⟨ob, k.2 a ob xs h⟩
  · exact .inr h
mutual
theorem RD.keep0 (k : TupK0 H H') : ∀ {d : D} {v : V}, RD C H d v → RD C H' d v
  | .non, v, h => h
  | .bl b, v, h => h
  | .int i, v, h => h
  | .str x, v, h => h
  | .tup ds, v, h => by
    obtain ⟨a, xs, e, hq, hs⟩ := h
    exact ⟨a, xs, e, k.sq hq, RDs.keep0 k hs⟩
  | .ref a, v, h => h
  | .kl ds, v, h => by
    obtain ⟨a, xs, e, hq, hs⟩ := h
    exact ⟨a, xs, e, k.sqf hq, RDs.keep0 k hs⟩
  | .exn _ _, v, h => h
theorem RDs.keep0 (k : TupK0 H H') : ∀ {ds : List D} {xs : List V}, RDs C H ds xs → RDs C H' ds xs
  | [], xs, h => h
  | d :: ds, xs, h => by
    obtain ⟨x, r, e, h1, h2⟩ := h
    exact ⟨x, r, e, RD.keep0 k h1, RDs.keep0 k h2⟩
end
theorem RDct.keep0 (k : TupK0 H H') {kvs : List (D × D)} {o : HO} (h : RDct C H kvs o) : RDct C H' kvs o := by
  obtain ⟨ks, e, p⟩ := h
  exact ⟨ks, e, Paired.mapP p fun _ _ q => ⟨q.1, q.2.keep0 k⟩⟩
theorem RO.keep0 (k : TupK0 H H') {a : Addr} {o : MO} {u : HO} (h : RO C H a o u) : RO C H' a o u := by
  cases o with
  | lst ds => cases u with
    | lst xs => exact RDs.keep0 k h
    | _ => exact h
  | dct kvs => exact RDct.keep0 k h
  | lck kvs => cases u with
    | frz ob u => exact RDct.keep0 k h
    | _ => exact h
  | ins c fs => cases u with
    | ins B dx gs => exact ⟨h.1, Paired.mapP h.2 fun _ _ q => ⟨q.1, q.2.keep0 k⟩⟩
    | _ => exact h
theorem RD.keep (k : TupK H H') {d : D} {v : V} (h : RD C H d v) : RD C H' d v := h.keep0 k.weak
theorem RDs.keep (k : TupK H H') {ds : List D} {xs : List V} (h : RDs C H ds xs) : RDs C H' ds xs := h.keep0 k.weak
theorem RDct.keep (k : TupK H H') {kvs : List (D × D)} {o : HO} (h : RDct C H kvs o) : RDct C H' kvs o := h.keep0 k.weak
theorem RO.keep (k : TupK H H') {a : Addr} {o : MO} {u : HO} (h : RO C H a o u) : RO C H' a o u := h.keep0 k.weak
theorem RDs.length : ∀ {ds : List D} {xs : List V}, RDs C H ds xs → ds.length = xs.length
  | [], xs, h => by rw [show xs = [] from h]; rfl
  | d :: ds, xs, h => by
    obtain ⟨x, r, e, _, h2⟩ := h
    rw [e, List.length_cons, List.length_cons, RDs.length h2]
theorem RDs.append : ∀ {ds es : List D} {xs ys : List V}, RDs C H ds xs → RDs C H es ys → RDs C H (ds ++ es) (xs ++ ys)
  | [], es, xs, ys, h, h2 => by rw [show xs = [] from h]; exact h2
  | d :: ds, es, xs, ys, h, h2 => by
    obtain ⟨x, r, e, h1, h3⟩ := h
    rw [e]
    exact ⟨x, r ++ ys, rfl, h1, RDs.append h3 h2⟩
theorem RDs.get : ∀ {ds : List D} {xs : List V} {i : Nat} {d : D}, RDs C H ds xs → ds[i]? = some d → ∃ x, xs[i]? = some x ∧ RD C H d x
  | [], xs, i, d, h, e => by simp at e
  | d :: ds, xs, 0, d', h, e => by
    obtain ⟨x, r, e2, h1, h2⟩ := h
    have : d = d' := by simpa using e
    subst this
    exact ⟨x, by rw [e2]; rfl, h1⟩
  | d :: ds, xs, i + 1, d', h, e => by
    obtain ⟨x, r, e2, h1, h2⟩ := h
    obtain ⟨y, hy, ry⟩ := RDs.get (i := i) (d := d') h2 (by simpa using e)
    exact ⟨y, by rw [e2]; simpa using hy, ry⟩
theorem RDs.set : ∀ {ds : List D} {xs : List V} (i : Nat) {d : D} {x : V}, RDs C H ds xs → RD C H d x → RDs C H (ds.set i d) (xs.set i x)
  | [], xs, i, d, x, h, r => by rw [show xs = [] from h]; exact rfl
  | d :: ds, xs, 0, d', x', h, r => by
    obtain ⟨x, l, e2, h1, h2⟩ := h
    rw [e2]
    exact ⟨x', l, rfl, r, h2⟩
  | d :: ds, xs, i + 1, d', x', h, r => by
    obtain ⟨x, l, e2, h1, h2⟩ := h
    rw [e2]
    exact ⟨x, l.set i x', rfl, h1, RDs.set i h2 r⟩
theorem RDs.drop : ∀ {ds : List D} {xs : List V} (n : Nat), RDs C H ds xs → RDs C H (ds.drop n) (xs.drop n)
  | ds, xs, 0, h => h
  | [], xs, n + 1, h => by rw [show xs = [] from h]; exact rfl
  | d :: ds, xs, n + 1, h => by
    obtain ⟨x, l, e2, h1, h2⟩ := h
    rw [e2]
    exact RDs.drop n h2
theorem RDs.take : ∀ {ds : List D} {xs : List V} (n : Nat), RDs C H ds xs → RDs C H (ds.take n) (xs.take n)
  | ds, xs, 0, h => rfl
  | [], xs, n + 1, h => by rw [show xs = [] from h]; exact rfl
  | d :: ds, xs, n + 1, h => by
    obtain ⟨x, l, e2, h1, h2⟩ := h
    rw [e2]
    exact ⟨x, l.take n, rfl, h1, RDs.take n h2⟩
theorem RDs.eraseIdx : ∀ {ds : List D} {xs : List V} (n : Nat), RDs C H ds xs → RDs C H (ds.eraseIdx n) (xs.eraseIdx n)
  | [], xs, n, h => by rw [show xs = [] from h]; exact rfl
  | d :: ds, xs, 0, h => by
    obtain ⟨x, l, e2, h1, h2⟩ := h
    rw [e2]
    exact h2
  | d :: ds, xs, n + 1, h => by
    obtain ⟨x, l, e2, h1, h2⟩ := h
    rw [e2]
    exact ⟨x, l.eraseIdx n, rfl, h1, RDs.eraseIdx n h2⟩
theorem RDs.reverse : ∀ {ds : List D} {xs : List V}, RDs C H ds xs → RDs C H ds.reverse xs.reverse
  | [], xs, h => by rw [show xs = [] from h]; exact rfl
  | d :: ds, xs, h => by
    obtain ⟨x, l, e2, h1, h2⟩ := h
    rw [e2, List.reverse_cons, List.reverse_cons]
    exact RDs.append (RDs.reverse h2) ⟨x, [], rfl, h1, rfl⟩
theorem RDs.splitLast {ds : List D} {d : D} {xs : List V} (h : RDs C H (ds ++ [d]) xs) : ∃ ys y, xs = ys ++ [y] ∧ RDs C H ds ys ∧ RD C H d y := by
  have h1 := RDs.take ds.length h
  have h2 := RDs.drop ds.length h
  rw [List.take_left' rfl] at h1
  rw [List.drop_left' rfl] at h2
  obtain ⟨y, r, e, h3, h4⟩ := h2
  rw [show r = [] from h4] at e
  refine ⟨xs.take ds.length, y, ?_, h1, h3⟩
  rw [← e, List.take_append_drop]

/-- the values by slot -/
def RL (C : Ct) (H : Hp) (σ3 : Lo) (σ : L2.St) : Prop := σ3.length = σ.length ∧ ∀ (i : Nat) (d : D), σ3[i]? = some (some d) → ∃ v, σ[i]? = some (some v) ∧ RD C H d v
theorem RL.keep0 (k : TupK0 H H') {σ3 : Lo} {σ : L2.St} (h : RL C H σ3 σ) : RL C H' σ3 σ :=
  ⟨h.1, fun i d e => let ⟨v, e1, r⟩ := h.2 i d e; ⟨v, e1, r.keep0 k⟩⟩
theorem RL.keep (k : TupK H H') {σ3 : Lo} {σ : L2.St} (h : RL C H σ3 σ) : RL C H' σ3 σ := h.keep0 k.weak
theorem RL.set {σ3 : Lo} {σ : L2.St} (h : RL C H σ3 σ) {i : Nat} {d : D} {v : V} (r : RD C H d v) : RL C H (σ3.set i (some d)) (σ.set i (some v)) := by
  refine ⟨by rw [List.length_set, List.length_set]; exact h.1, fun j d' e => ?_⟩
  by_cases hj : i = j
  · subst hj
    by_cases hl : i < σ3.length
    · rw [List.getElem?_set_self hl] at e
      cases e
      exact ⟨v, by rw [List.getElem?_set_self (by rw [← h.1]; exact hl)], r⟩
    · rw [List.getElem?_eq_none (by rw [List.length_set]; omega)] at e
      cases e
  · rw [List.getElem?_set_ne hj] at e
    obtain ⟨v', e1, r1⟩ := h.2 j d' e
    exact ⟨v', by rw [List.getElem?_set_ne hj]; exact e1, r1⟩
/-- forgetting is free -/
theorem RL.unset {σ3 : Lo} {σ : L2.St} (h : RL C H σ3 σ) (i : Nat) : RL C H (σ3.set i none) σ := by
  refine ⟨by rw [List.length_set]; exact h.1, fun j d' e => ?_⟩
  by_cases hj : i = j
  · subst hj
    by_cases hl : i < σ3.length
    · rw [List.getElem?_set_self hl] at e
      cases e
    · rw [List.getElem?_eq_none (by rw [List.length_set]; omega)] at e
      cases e
  · rw [List.getElem?_set_ne hj] at e
    exact h.2 j d' e
end

/-- a state of the small language within a context: M0 stood at the context's entry -/
structure I3 (C : Ct) (X : Cx) (M0 : Mp) (pins : List (Addr × Obj)) (σ3 : Lo) (M : Mp) (σ : L2.St) (H : Hp) (s : Shared) : Prop where
  inv : Inv X pins σ H s
  lo : RL C H σ3 σ
  hp : RM C H M
  st : Stp X.H_0 M0 H M
/-- an expression has come to its end -/
def EP3 (C : Ct) (X : Cx) (M0 : Mp) (pins : List (Addr × Obj)) (σ3 : Lo) (σ : L2.St) (H : Hp) (M : Mp) (Q : Post) (u : Value) (s' : Shared) : Prop :=
  ∃ d M' v H', I3 C X M0 pins σ3 M' σ H' s' ∧ RelV v u ∧ RD C H' d v ∧ Stp H M H' M' ∧ Q d M'
def EPs3 (C : Ct) (X : Cx) (M0 : Mp) (pins : List (Addr × Obj)) (σ3 : Lo) (σ : L2.St) (H : Hp) (M : Mp) (Q : List D → Mp → Prop) (us : List Value) (s' : Shared) : Prop :=
  ∃ ds M' vs H', I3 C X M0 pins σ3 M' σ H' s' ∧ Vals vs us ∧ RDs C H' ds vs ∧ Stp H M H' M' ∧ Q ds M'
def TP3 (C : Ct) (X : Cx) (M0 : Mp) (pins : List (Addr × Obj)) (σ3 : Lo) (σ : L2.St) (H : Hp) (M : Mp) (k : Bool → Mp → Prop) (b : Bool) (s' : Shared) : Prop :=
  ∃ M' H', I3 C X M0 pins σ3 M' σ H' s' ∧ Stp H M H' M' ∧ k b M'
section
variable {C : Ct} {X : Cx} {M0 M M' : Mp} {pins : List (Addr × Obj)} {σ3 : Lo} {σ : L2.St} {H H' : Hp} {s s' : Shared}
theorem I3.to (I : I3 C X M0 pins σ3 M σ H s) (J : Inv X pins σ H' s') (r : RM C H' M') (t : Stp H M H' M') : I3 C X M0 pins σ3 M' σ H' s' :=
  ⟨J, I.lo.keep (t.tupK I.hp), r, I.st.trans t⟩
theorem I3.same (I : I3 C X M0 pins σ3 M σ H s) (J : Inv X pins σ H s') : I3 C X M0 pins σ3 M σ H s' := ⟨J, I.lo, I.hp, I.st⟩
/-- a new object, told or not -/
theorem upd_stp {p : Addr} {o : HO} (hp : H p = none) : Stp H M (upd H p o) M := ⟨fun a u e n => ⟨by rw [upd_ne (ne_of_none e hp)]; exact e, n⟩, fun a ob u e => by rw [upd_ne (ne_of_none e hp)]; exact e⟩
theorem mset_stp {p : Addr} {o : HO} {m : MO} (hp : H p = none) : Stp H M (upd H p o) (mset M p m) := ⟨fun a u e n => by
  have ne : a ≠ p := ne_of_none e hp
  exact ⟨by rw [upd_ne ne]; exact e, by rw [mset_ne ne]; exact n⟩, fun a ob u e => by rw [upd_ne (ne_of_none e hp)]; exact e⟩
theorem RM.free (r : RM C H M) {p : Addr} (hp : H p = none) : M p = none := by
  cases e : M p with
  | none => rfl
  | some o =>
    obtain ⟨u, hu, _⟩ := r p o e
    rw [hp] at hu; cases hu
theorem tupK_new {p : Addr} {o : HO} (hp : H p = none) : TupK H (upd H p o) := ⟨fun a xs h => by
  rcases h with h | ⟨ob, h⟩
  · exact .inl (by rw [upd_ne (ne_of_none h hp)]; exact h)
  · exact .inr ⟨ob, by rw [upd_ne (ne_of_none h hp)]; exact h⟩, fun a ob xs h => by rw [upd_ne (ne_of_none h hp)]; exact h⟩
theorem RM.new0 (r : RM C H M) {p : Addr} {o : HO} (hp : H p = none) : RM C (upd H p o) M := fun a m e => by
  obtain ⟨u, hu, ro⟩ := r a m e
  exact ⟨u, by rw [upd_ne (ne_of_none hu hp)]; exact hu, ro.keep (tupK_new hp)⟩
theorem RM.new (r : RM C H M) {p : Addr} {o : HO} {m : MO} (hp : H p = none) (ro : RO C (upd H p o) p m o) : RM C (upd H p o) (mset M p m) := fun a m' e => by
  by_cases h : a = p
  · subst h
    rw [mset_same] at e; cases e
    exact ⟨o, upd_same, ro⟩
  · rw [mset_ne h] at e
    obtain ⟨u, hu, q⟩ := r a m' e
    exact ⟨u, by rw [upd_ne h]; exact hu, q.keep (tupK_new hp)⟩
/-- an object that is told is written: it was no tuple, nothing frozen -/
theorem tupK_set {p : Addr} {o u : HO} (hu : H p = some u) (h1 : ∀ xs, u ≠ .tup xs) (h2 : ∀ ob x, u ≠ .frz ob x) : TupK H (upd H p o) := ⟨fun a xs h => by
  rcases h with h | ⟨ob, h⟩
  · have ne : a ≠ p := by rintro rfl; rw [h] at hu; cases hu; exact h1 _ rfl
    exact .inl (by rw [upd_ne ne]; exact h)
  · have ne : a ≠ p := by rintro rfl; rw [h] at hu; cases hu; exact h2 _ _ rfl
    exact .inr ⟨ob, by rw [upd_ne ne]; exact h⟩, fun a ob xs h => by
  have ne : a ≠ p := by rintro rfl; rw [h] at hu; cases hu; exact h2 _ _ rfl
  rw [upd_ne ne]; exact h⟩
def MO.free : MO → Prop
  | .lck _ => False
  | _ => True
theorem RM.nofrz (r : RM C H M) {p : Addr} {m : MO} (hm : M p = some m) (hl : m.free) : ∃ u, H p = some u ∧ (∀ xs, u ≠ .tup xs) ∧ ∀ ob x, u ≠ .frz ob x := by
  obtain ⟨u, hu, ro⟩ := r p m hm
  refine ⟨u, hu, fun xs e => ?_, fun ob x e => ?_⟩
  · rw [e] at ro; exact ro.notup
  · rw [e] at ro
    cases m with
    | lck kvs => exact hl
    | dct kvs => obtain ⟨ks, e, _⟩ : RDct C H kvs _ := ro; cases e
    | _ => exact ro
theorem RM.tupKw (r : RM C H M) {p : Addr} {m : MO} {o : HO} (hm : M p = some m) (hl : m.free := by trivial) : TupK H (upd H p o) := by
  obtain ⟨u, hu, h1, h2⟩ := r.nofrz hm hl
  exact tupK_set hu h1 h2
theorem RM.write (r : RM C H M) {p : Addr} {m m' : MO} {o : HO} (hm : M p = some m) (ro : RO C (upd H p o) p m' o) (hl : m.free := by trivial) : RM C (upd H p o) (mset M p m') := fun a m2 e => by
  by_cases h : a = p
  · subst h
    rw [mset_same] at e; cases e
    exact ⟨o, upd_same, ro⟩
  · rw [mset_ne h] at e
    obtain ⟨u, hu, q⟩ := r a m2 e
    exact ⟨u, by rw [upd_ne h]; exact hu, q.keep (r.tupKw hm hl)⟩
theorem write_stp (r : RM C H M) {p : Addr} {m m' : MO} {o : HO} (hm : M p = some m) (hl : m.free := by trivial) : Stp H M (upd H p o) (mset M p m') := ⟨fun a u e n => by
  have ne : a ≠ p := by rintro rfl; rw [hm] at n; cases n
  exact ⟨by rw [upd_ne ne]; exact e, by rw [mset_ne ne]; exact n⟩, (r.tupKw hm hl).2⟩
theorem RM.lst (r : RM C H M) {a : Addr} {ds : List D} (h : M a = some (.lst ds)) : ∃ xs, H a = some (.lst xs) ∧ RDs C H ds xs := by
  obtain ⟨u, hu, ro⟩ := r a _ h
  cases u with
  | lst xs => exact ⟨xs, hu, ro⟩
  | _ => exact ro.elim
theorem RM.dct (r : RM C H M) {a : Addr} {kvs : List (D × D)} (h : M a = some (.dct kvs)) : ∃ ks : List (Key × V), H a = some (.dK ks) ∧ Paired (fun (p : D × D) (q : Key × V) => KRel p.1 q.1 ∧ RD C H p.2 q.2) kvs ks := by
  obtain ⟨u, hu, ro⟩ := r a _ h
  obtain ⟨ks, e, p⟩ : RDct C H kvs u := ro
  subst e
  exact ⟨ks, hu, p⟩
theorem RM.lck (r : RM C H M) {a : Addr} {kvs : List (D × D)} (h : M a = some (.lck kvs)) : ∃ (ob : Obj) (ks : List (Key × V)), H a = some (.frz ob (.dK ks)) ∧ Paired (fun (p : D × D) (q : Key × V) => KRel p.1 q.1 ∧ RD C H p.2 q.2) kvs ks := by
  obtain ⟨u, hu, ro⟩ := r a _ h
  cases u with
  | frz ob u =>
    obtain ⟨ks, e, p⟩ : RDct C H kvs u := ro
    subst e
    exact ⟨ob, ks, hu, p⟩
  | _ => exact ro.elim
theorem RM.ins (r : RM C H M) {a : Addr} {c : Nat} {fs : List (Str × D)} (h : M a = some (.ins c fs)) : ∃ dx gs, H a = some (.ins (C.ca c) dx gs) ∧ Paired (fun (p : Str × D) (q : Str × V) => p.1 = q.1 ∧ RD C H p.2 q.2) fs gs := by
  obtain ⟨u, hu, ro⟩ := r a _ h
  cases u with
  | ins B dx gs =>
    obtain ⟨e, p⟩ := ro
    exact ⟨dx, gs, by rw [e]; exact hu, p⟩
  | _ => exact ro.elim
end
end L3
end
section
set_option autoImplicit false
set_option linter.all false
set_option maxRecDepth 100000
/-! L3: operations by values -/
namespace L3
open PySem L2

section
variable {C : Ct} {H : Hp} {h : Heap}
/-! ### keys -/
mutual
theorem RD.is (ok : HOk C.P C.w H h) (kin : C.K.In h) : ∀ {d : D} {v : V} {u : Value}, RD C H d v → RelV v u → d.pure = true → NestedIs h d.key u
  | .non, v, u, r, q, _ => by rw [show v = .non from r] at q; cases q; exact .none
  | .bl b, v, u, r, q, _ => by rw [show v = .bl b from r] at q; cases q; exact .bool rfl
  | .int i, v, u, r, q, _ => by rw [show v = .int i from r] at q; obtain ⟨t, rfl⟩ := q; exact .int i t
  | .str x, v, u, r, q, _ => by rw [show v = .str x from r] at q; obtain ⟨t, rfl⟩ := q; exact .text x t
  | .tup ds, v, u, r, q, p => by
    obtain ⟨a, xs, rfl, hq, hs⟩ := r
    cases q
    rcases hq with hq | ⟨o, its, n, hk, hc, hd, hz, rv⟩
    · obtain ⟨z, its, rv, o, ho, hc, n, hd⟩ := hq.ok ok
      exact .tup ho hc hd (by simpa using RDs.is ok kin hs rv p)
    · exact .tup (kin a o hk) hc hd (RDs.is ok kin hs rv p)
  | .ref _, _, _, _, _, p => absurd p Bool.false_ne_true
  | .exn _ _, _, _, _, _, p => absurd p Bool.false_ne_true
  | .kl _, _, _, _, _, p => absurd p Bool.false_ne_true
theorem RDs.is (ok : HOk C.P C.w H h) (kin : C.K.In h) : ∀ {ds : List D} {xs : List V} {us : List Value}, RDs C H ds xs → Vals xs us → D.pures ds = true → NestedAll h (D.keys ds) us
  | [], xs, us, r, q, _ => by rw [show xs = [] from r] at q; cases q; exact .nil
  | d :: ds, xs, us, r, q, p => by
    obtain ⟨x, l, rfl, h1, h2⟩ := r
    cases q with
    | cons q1 q2 =>
      have p' : (d.pure && D.pures ds) = true := p
      rw [Bool.and_eq_true] at p'
      exact .cons (RD.is ok kin h1 q1 p'.1) (RDs.is ok kin h2 q2 p'.2)
end
/-! ### data -/
end

open SeqAt in
theorem rcKey {A : Around} {s : Shared} : ∀ (x y : NestedKey) (a b : Value), NestedIs s.heap x a → NestedIs s.heap y b → A.units + min x.depth y.depth < cLine → RcAt A s a b (NestedKey.beq x y) := by
  intro x y a b ra rb hu
  cases ra with
  | none => cases rb with
    | none => exact RcAt.none_none
    | @bool d i e => exact RcAt.none_bool d
    | int y u => exact RcAt.none_int y u
    | text y u => exact RcAt.none_str y u
    | tup k1 k2 k3 k4 => exact RcAt.none_tuple ⟨_, k1, k2, _, k3⟩ (room_here hu)
  | @bool c i e =>
    subst e
    cases rb with
    | none => exact RcAt.bool_none c
    | @bool d i e =>
      subst e
      have : NestedKey.beq (.num (if c = true then 1 else 0)) (.num (if d = true then 1 else 0)) = (c == d) := by cases c <;> cases d <;> rfl
      rw [this]; exact RcAt.bool_bool c d
    | int y u =>
      have : NestedKey.beq (.num (if c = true then 1 else 0)) (.num y) = ((if c then 1 else 0) == y) := by (simp only [NestedKey.beq]; rw [Bool.eq_iff_iff]; simp)
      rw [this]; exact RcAt.bool_int c y u
    | text y u => exact RcAt.bool_str c y u
    | tup k1 k2 k3 k4 => exact RcAt.bool_tuple c ⟨_, k1, k2, _, k3⟩ (room_here hu)
  | int x t => cases rb with
    | none => exact RcAt.int_none x t
    | @bool d i e =>
      subst e
      have : NestedKey.beq (.num x) (.num (if d = true then 1 else 0)) = (x == (if d then 1 else 0)) := by (simp only [NestedKey.beq]; rw [Bool.eq_iff_iff]; simp)
      rw [this]; exact RcAt.int_bool x t d
    | int y u =>
      have : NestedKey.beq (.num x) (.num y) = (x == y) := by (simp only [NestedKey.beq]; rw [Bool.eq_iff_iff]; simp)
      rw [this]; exact RcAt.int_int x t y u
    | text y u => exact RcAt.int_str x t y u
    | tup k1 k2 k3 k4 => exact RcAt.int_tuple x t ⟨_, k1, k2, _, k3⟩ (room_here hu)
  | text x t => cases rb with
    | none => exact RcAt.str_none x t
    | @bool d i e => exact RcAt.str_bool x t d
    | int y u => exact RcAt.str_int x t y u
    | text y u =>
      have : NestedKey.beq (.text x) (.text y) = (x == y) := by (simp only [NestedKey.beq]; rw [Bool.eq_iff_iff]; simp)
      rw [this]; exact RcAt.str_str x t y u
    | tup k1 k2 k3 k4 => exact RcAt.str_tuple x t ⟨_, k1, k2, _, k3⟩ (room_here hu)
  | @tup l o vs n xs h1 h2 h3 h4 =>
    have hl : s.heap.IsTuple l vs := ⟨_, h1, h2, _, h3⟩
    cases rb with
    | none => exact RcAt.tuple_none hl (room_here hu)
    | @bool d i e => exact RcAt.tuple_bool d hl (room_here hu)
    | int y u => exact RcAt.tuple_int y u hl (room_here hu)
    | text y u => exact RcAt.tuple_str y u hl (room_here hu)
    | @tup l' o' vs' n' ys k1 k2 k3 k4 =>
      have hl' : s.heap.IsTuple l' vs' := ⟨_, k1, k2, _, k3⟩
      have n1 : vs.size = xs.length := by simpa using NestedAll.length _ _ h4
      have n2 : vs'.size = ys.length := by simpa using NestedAll.length _ _ k4
      show RcAt A s (.ref l) (.ref l') (NestedKey.beqAll xs ys)
      rw [← beqAll_eq xs ys, ← n1, ← n2]
      refine RcAt.tuples hl hl' (room_here hu) fun j j1 j2 => ?_
      have := eqAt_keys xs ys A.in1 s vs.toList vs'.toList h4 k4 (room_in hu) j (by simpa using j1) (by simpa using j2)
      simpa using this
open SeqAt in
theorem rcNeKey {A : Around} {s : Shared} : ∀ (x y : NestedKey) (a b : Value), NestedIs s.heap x a → NestedIs s.heap y b → A.units + min x.depth y.depth < cLine → RcNeAt A s a b (!NestedKey.beq x y) := by
  intro x y a b ra rb hu
  cases ra with
  | none => cases rb with
    | none => exact RcNeAt.none_none
    | @bool d i e => exact RcNeAt.none_bool d
    | int y u => exact RcNeAt.none_int y u
    | text y u => exact RcNeAt.none_str y u
    | tup k1 k2 k3 k4 => exact RcNeAt.none_tuple ⟨_, k1, k2, _, k3⟩ (room_here hu)
  | @bool c i e =>
    subst e
    cases rb with
    | none => exact RcNeAt.bool_none c
    | @bool d i e =>
      subst e
      have : NestedKey.beq (.num (if c = true then 1 else 0)) (.num (if d = true then 1 else 0)) = (c == d) := by cases c <;> cases d <;> rfl
      rw [this]; exact RcNeAt.bool_bool c d
    | int y u =>
      have : NestedKey.beq (.num (if c = true then 1 else 0)) (.num y) = ((if c then 1 else 0) == y) := by (simp only [NestedKey.beq]; rw [Bool.eq_iff_iff]; simp)
      rw [this]; exact RcNeAt.bool_int c y u
    | text y u => exact RcNeAt.bool_str c y u
    | tup k1 k2 k3 k4 => exact RcNeAt.bool_tuple c ⟨_, k1, k2, _, k3⟩ (room_here hu)
  | int x t => cases rb with
    | none => exact RcNeAt.int_none x t
    | @bool d i e =>
      subst e
      have : NestedKey.beq (.num x) (.num (if d = true then 1 else 0)) = (x == (if d then 1 else 0)) := by (simp only [NestedKey.beq]; rw [Bool.eq_iff_iff]; simp)
      rw [this]; exact RcNeAt.int_bool x t d
    | int y u =>
      have : NestedKey.beq (.num x) (.num y) = (x == y) := by (simp only [NestedKey.beq]; rw [Bool.eq_iff_iff]; simp)
      rw [this]; exact RcNeAt.int_int x t y u
    | text y u => exact RcNeAt.int_str x t y u
    | tup k1 k2 k3 k4 => exact RcNeAt.int_tuple x t ⟨_, k1, k2, _, k3⟩ (room_here hu)
  | text x t => cases rb with
    | none => exact RcNeAt.str_none x t
    | @bool d i e => exact RcNeAt.str_bool x t d
    | int y u => exact RcNeAt.str_int x t y u
    | text y u =>
      have : NestedKey.beq (.text x) (.text y) = (x == y) := by (simp only [NestedKey.beq]; rw [Bool.eq_iff_iff]; simp)
      rw [this]; exact RcNeAt.str_str x t y u
    | tup k1 k2 k3 k4 => exact RcNeAt.str_tuple x t ⟨_, k1, k2, _, k3⟩ (room_here hu)
  | @tup l o vs n xs h1 h2 h3 h4 =>
    have hl : s.heap.IsTuple l vs := ⟨_, h1, h2, _, h3⟩
    cases rb with
    | none => exact RcNeAt.tuple_none hl (room_here hu)
    | @bool d i e => exact RcNeAt.tuple_bool d hl (room_here hu)
    | int y u => exact RcNeAt.tuple_int y u hl (room_here hu)
    | text y u => exact RcNeAt.tuple_str y u hl (room_here hu)
    | @tup l' o' vs' n' ys k1 k2 k3 k4 =>
      have hl' : s.heap.IsTuple l' vs' := ⟨_, k1, k2, _, k3⟩
      have n1 : vs.size = xs.length := by simpa using NestedAll.length _ _ h4
      have n2 : vs'.size = ys.length := by simpa using NestedAll.length _ _ k4
      show RcNeAt A s (.ref l) (.ref l') (!NestedKey.beqAll xs ys)
      rw [← beqAll_eq xs ys, ← n1, ← n2]
      refine RcNeAt.tuples hl hl' (room_here hu) fun j j1 j2 => ?_
      have := eqAt_keys xs ys A.in1 s vs.toList vs'.toList h4 k4 (room_in hu) j (by simpa using j1) (by simpa using j2)
      simpa using this

section
variable {ca : Nat → Addr} {X : Cx} {M0 M : Mp} {pins : List (Addr × Obj)} {σ3 : Lo} {σ : L2.St} {H : Hp} {s : Shared}
/-- the context's own -/
abbrev ct (X : Cx) (ca : Nat → Addr) : Ct := ⟨X.prog, X.w, X.K, ca⟩
/-- what a rule by values is to reach -/
def QV (C : Ct) (H : Hp) (M : Mp) (Q : Post) : VK := fun v H' => ∃ d M', RM C H' M' ∧ Stp H M H' M' ∧ RD C H' d v ∧ Q d M'
theorem ep_of {Q : Post} (I : I3 (ct X ca) X M0 pins σ3 M σ H s) {u : Value} {s' : Shared} (h : EP X pins σ (QV (ct X ca) H M Q) u s') : EP3 (ct X ca) X M0 pins σ3 σ H M Q u s' := by
  obtain ⟨v, H', J, r, d, M', rm, st, rd, q⟩ := h
  exact ⟨d, M', v, H', I.to J rm st, r, rd, st, q⟩
theorem ep_now {Q : Post} (I : I3 (ct X ca) X M0 pins σ3 M σ H s) {s' : Shared} (J : Inv X pins σ H s') {u : Value} {v : V} {d : D} (r : RelV v u) (rd : RD (ct X ca) H d v) (q : Q d M) : EP3 (ct X ca) X M0 pins σ3 σ H M Q u s' :=
  ⟨d, M, v, H, I.same J, r, rd, Stp.refl, q⟩
theorem ep_after {Q : Post} {M1 : Mp} {H1 : Hp} {u : Value} {s' : Shared} (st : Stp H M H1 M1) (h : EP3 (ct X ca) X M0 pins σ3 σ H1 M1 Q u s') : EP3 (ct X ca) X M0 pins σ3 σ H M Q u s' := by
  obtain ⟨d, M', v, H', I, r, rd, st', q⟩ := h
  exact ⟨d, M', v, H', I, r, rd, st.trans st', q⟩
theorem qv_now {C : Ct} {Q : Post} {v : V} {d : D} (r : RM C H M) (rd : RD C H d v) (q : Q d M) : QV C H M Q v H := ⟨d, M, r, Stp.refl, rd, q⟩
theorem qv_int {C : Ct} {Q : Post} {i : Int} (r : RM C H M) (q : Q (.int i) M) : QV C H M Q (.int i) H := ⟨.int i, M, r, Stp.refl, rfl, q⟩
theorem qv_bl {C : Ct} {Q : Post} {i : Bool} (r : RM C H M) (q : Q (.bl i) M) : QV C H M Q (.bl i) H := ⟨.bl i, M, r, Stp.refl, rfl, q⟩
theorem qv_str {C : Ct} {Q : Post} {i : Str} (r : RM C H M) (q : Q (.str i) M) : QV C H M Q (.str i) H := ⟨.str i, M, r, Stp.refl, rfl, q⟩
theorem qv_non {C : Ct} {Q : Post} (r : RM C H M) (q : Q .non M) : QV C H M Q .non H := ⟨.non, M, r, Stp.refl, rfl, q⟩
theorem qv_new {C : Ct} {Q : Post} {p : Addr} {o : HO} {m : MO} (r : RM C H M) (hp : H p = none) (ro : RO C H p m o) (q : wpNew M m Q) : QV C H M Q (.ref p) (upd H p o) :=
  ⟨.ref p, mset M p m, r.new hp (ro.keep (tupK_new hp)), mset_stp hp, rfl, q p (r.free hp)⟩
/-- a new tuple -/
theorem qv_tup {C : Ct} {Q : Post} {p : Addr} {xs : List V} {ds : List D} (r : RM C H M) (hp : H p = none) (rd : RDs C H ds xs) (q : Q (.tup ds) M) : QV C H M Q (.ref p) (upd H p (.tup xs)) :=
  ⟨.tup ds, M, r.new0 hp, upd_stp hp, ⟨p, xs, rfl, .inl (.inl upd_same), RDs.keep (tupK_new hp) rd⟩, q⟩

/-- a two-place operation by values -/
def Op3 (ca : Nat → Addr) (X : Cx) (f : Value → Value → Sem Value) (w : D → D → Mp → Post → Prop) : Prop :=
  ∀ (pins : List (Addr × Obj)) (s : Shared) (σ : L2.St) (H : Hp) (M0 M : Mp) (σ3 : Lo) (x y : D) (a b : V) (v u : Value) (Q : Post), I3 (ct X ca) X M0 pins σ3 M σ H s → RelV a v → RelV b u → RD (ct X ca) H x a → RD (ct X ca) H y b → w x y M Q →
    wpAny (model X.prog X.w) X.A (f v u) (EP3 (ct X ca) X M0 pins σ3 σ H M Q) X.xe s
theorem op3_of {f : Value → Value → Sem Value} {w : D → D → Mp → Post → Prop} {r : R2} (ho : OpR X f r)
    (h : ∀ (H : Hp) (M : Mp) (x y : D) (a b : V) (Q : Post), RM (ct X ca) H M → RD (ct X ca) H x a → RD (ct X ca) H y b → w x y M Q → r a b H (QV (ct X ca) H M Q)) : Op3 ca X f w :=
  fun pins s σ H M0 M σ3 x y a b v u Q I ra rb hx hy hw => thn (ho pins s σ H a b v u _ I.inv ra rb (h H M x y a b Q I.hp hx hy hw)) fun _ _ q => ep_of I q

theorem o_sub : Op3 ca X (binaryOp .Sub) (wpBin .sub) := op3_of op_sub fun H M x y a b Q r hx hy h => by
  cases x with
  | int i => cases y with
    | int j => exact ⟨i, j, hx, hy, qv_int r h⟩
    | _ => exact h.elim
  | _ => exact h.elim
theorem o_mulI : Op3 ca X (binaryOp .Mult) (fun x y M Q => (∀ z, x ≠ .str z) ∧ wpBin .mul x y M Q) := op3_of op_mul fun H M x y a b Q r hx hy ⟨hz, h⟩ => by
  cases x with
  | int i => cases y with
    | int j => exact ⟨i, j, hx, hy, h.1, qv_int r h.2⟩
    | _ => exact h.elim
  | str z => exact absurd rfl (hz z)
  | _ => exact h.elim
theorem o_mul : Op3 ca X (binaryOp .Mult) (wpBin .mul) := by
  intro pins s σ H M0 M σ3 x y a b v u Q I ra rb hx hy h
  cases x with
  | str z => cases y with
    | int n =>
      have e1 : a = .str z := hx
      have e2 : b = .int n := hy
      subst e1 e2
      obtain ⟨t, rfl⟩ := ra
      obtain ⟨t', rfl⟩ := rb
      exact SB.mul h.1 fun t2 k => ep_now (v := .str (Txt.mul z n)) (d := .str (Txt.mul z n)) I (I.inv.tok k) ⟨_, rfl⟩ rfl h.2
    | _ => exact h.elim
  | _ => exact o_mulI pins s σ H M0 M σ3 _ y a b v u Q I ra rb hx hy ⟨(fun _ e => nomatch e), h⟩
theorem o_fdiv : Op3 ca X (binaryOp .FloorDiv) (wpBin .fdiv) := op3_of op_fdiv fun H M x y a b Q r hx hy h => by
  cases x with
  | int i => cases y with
    | int j => exact ⟨i, j, hx, hy, h.1, qv_int r h.2⟩
    | _ => exact h.elim
  | _ => exact h.elim
theorem o_mod : Op3 ca X (binaryOp .Mod) (wpBin .mod) := op3_of op_mod fun H M x y a b Q r hx hy h => by
  cases x with
  | int i => cases y with
    | int j => exact ⟨i, j, hx, hy, h.1, qv_int r h.2⟩
    | _ => exact h.elim
  | _ => exact h.elim
theorem o_pow : Op3 ca X (binaryOp .Pow) (wpBin .pow) := op3_of op_pow fun H M x y a b Q r hx hy h => by
  cases x with
  | int i => cases y with
    | int j => exact ⟨i, j, hx, hy, h.1, qv_int r h.2⟩
    | _ => exact h.elim
  | _ => exact h.elim
theorem o_shl : Op3 ca X (binaryOp .LShift) (wpBin .shl) := op3_of op_shl fun H M x y a b Q r hx hy h => by
  cases x with
  | int i => cases y with
    | int j => exact ⟨i, j, hx, hy, h.1, qv_int r h.2⟩
    | _ => exact h.elim
  | _ => exact h.elim
theorem o_shr : Op3 ca X (binaryOp .RShift) (wpBin .shr) := op3_of op_shr fun H M x y a b Q r hx hy h => by
  cases x with
  | int i => cases y with
    | int j => exact ⟨i, j, hx, hy, h.1, qv_int r h.2⟩
    | _ => exact h.elim
  | _ => exact h.elim
/-- the ways of + -/
theorem op_add3 : OpR X (binaryOp .Add) (fun x y H Q => rI0 (fun i j => .int (i + j)) x y H Q ∨ (∃ i j, x = .str i ∧ y = .str j ∧ i.length + j.length ≤ sizeLine ∧ Q (.str (i ++ j)) H) ∨ rCatA X.K x y H Q ∨ rCat x y H Q) :=
  OpR.or op_add (OpR.or op_add_str (OpR.or op_catA op_cat))
theorem o_add : Op3 ca X (binaryOp .Add) (wpBin .add) := op3_of op_add3 fun H M x y a b Q r hx hy h => by
  cases x with
  | int i => cases y with
    | int j => exact .inl ⟨i, j, hx, hy, qv_int r h⟩
    | _ => exact h.elim
  | str i => cases y with
    | str j => exact .inr (.inl ⟨i, j, hx, hy, h.1, qv_str r h.2⟩)
    | _ => exact h.elim
  | tup ds => cases y with
    | tup es =>
      obtain ⟨p, xs, rfl, h1, h2⟩ := hx
      obtain ⟨q, ys, rfl, h3, h4⟩ := hy
      refine .inr (.inr (.inl ⟨p, q, xs, ys, rfl, rfl, h1, h3, by rw [← h2.length, ← h4.length]; exact h.1, fun e => ?_, fun e1 e2 => ?_, fun _ _ n hn => ?_⟩))
      · subst e
        cases ds with
        | nil => exact qv_now (d := .tup es) r ⟨q, ys, rfl, h3, h4⟩ h.2
        | cons d ds => obtain ⟨_, _, e, _⟩ := h2; cases e
      · subst e2
        cases es with
        | nil =>
          have h5 : Q (.tup (ds ++ [])) M := h.2
          rw [List.append_nil] at h5
          exact qv_now (d := .tup ds) r ⟨p, xs, rfl, h1, h2⟩ h5
        | cons d es => obtain ⟨_, _, e, _⟩ := h4; cases e
      · exact qv_tup r hn (RDs.append h2 h4) h.2
    | _ => exact h.elim
  | ref p => cases y with
    | ref q =>
      have h' : (match M p, M q with | some (.lst xs), some (.lst ys) => xs.length + ys.length ≤ sizeLine ∧ wpNew M (.lst (xs ++ ys)) Q | _, _ => False) := h
      cases e1 : M p with
      | none => rw [e1] at h'; exact h'.elim
      | some o1 => cases e2 : M q with
        | none => rw [e1, e2] at h'; cases o1 <;> exact h'.elim
        | some o2 =>
          rw [e1, e2] at h'
          cases o1 with
          | lst ds => cases o2 with
            | lst es =>
              obtain ⟨xs, g1, g2⟩ := r.lst e1
              obtain ⟨ys, g3, g4⟩ := r.lst e2
              exact .inr (.inr (.inr ⟨p, q, xs, ys, hx, hy, g1, g3, by rw [← g2.length, ← g4.length]; exact h'.1, fun n hn => qv_new r hn (m := .lst (ds ++ es)) (RDs.append g2 g4) h'.2⟩))
            | _ => exact h'.elim
          | _ => cases o2 <;> exact h'.elim
    | _ => exact h.elim
  | _ => exact h.elim
def bop : BOp → Operator
  | .add => .Add
  | .sub => .Sub
  | .mul => .Mult
  | .fdiv => .FloorDiv
  | .mod => .Mod
  | .pow => .Pow
  | .shl => .LShift
  | .shr => .RShift
theorem o_bin (o : BOp) : Op3 ca X (binaryOp (bop o)) (wpBin o) := by
  cases o with
  | add => exact o_add
  | sub => exact o_sub
  | mul => exact o_mul
  | fdiv => exact o_fdiv
  | mod => exact o_mod
  | pow => exact o_pow
  | shl => exact o_shl
  | shr => exact o_shr
/-- x op= y of a name: + and - of ints, + of texts, // of ints .. (no list, which would be changed in place) -/
theorem iop_all3 : OpR X (inplaceOp .Add) (fun x y H Q => rI0 (fun i j => .int (i + j)) x y H Q ∨ (∃ i j, x = .str i ∧ y = .str j ∧ i.length + j.length ≤ sizeLine ∧ Q (.str (i ++ j)) H)) := OpR.or iop_add iop_add_str
theorem o_inp (o : BOp) : Op3 ca X (inplaceOp (bop o)) (wpInp o) := by
  cases o with
  | add =>
    refine op3_of iop_all3 fun H M x y a b Q r hx hy h => ?_
    cases x with
    | int i => cases y with
      | int j => exact .inl ⟨i, j, hx, hy, qv_int r h⟩
      | _ => exact h.elim
    | str i => cases y with
      | str j => exact .inr ⟨i, j, hx, hy, h.1, qv_str r h.2⟩
      | _ => exact h.elim
    | _ => exact h.elim
  | sub =>
    refine op3_of iop_sub fun H M x y a b Q r hx hy h => ?_
    cases x with
    | int i => cases y with
      | int j => exact ⟨i, j, hx, hy, qv_int r h⟩
      | _ => exact h.elim
    | _ => exact h.elim
  | mul =>
    refine op3_of iop_mul fun H M x y a b Q r hx hy h => ?_
    cases x with
    | int i => cases y with
      | int j => exact ⟨i, j, hx, hy, h.1, qv_int r h.2⟩
      | _ => exact h.elim
    | _ => exact h.elim
  | fdiv =>
    refine op3_of iop_fdiv fun H M x y a b Q r hx hy h => ?_
    cases x with
    | int i => cases y with
      | int j => exact ⟨i, j, hx, hy, h.1, qv_int r h.2⟩
      | _ => exact h.elim
    | _ => exact h.elim
  | _ =>
    intro pins s σ H M0 M σ3 x y a b v u Q I ra rb hx hy h
    cases x <;> cases y <;> exact False.elim h
end
end L3
end
section
set_option autoImplicit false
set_option linter.all false
set_option maxRecDepth 100000
/-! L3: dicts of ints and texts -/
namespace L3
open PySem L2 PyProof.Rows

abbrev PD (C : Ct) (H : Hp) (kvs : List (D × D)) (ks : List (Key × V)) : Prop := Paired (fun (p : D × D) (q : Key × V) => KRel p.1 q.1 ∧ RD C H p.2 q.2) kvs ks
theorem key_rd {C : Ct} {H : Hp} {x : D} {v : V} (r : RD C H x v) (h : x.hk1 = true) : ∃ k : Key, v = kV k ∧ KRel x k := by
  cases x with
  | int i => exact ⟨.inl i, r, rfl⟩
  | str z => exact ⟨.inr z, r, rfl⟩
  | _ => cases h
theorem rd_key {C : Ct} {H : Hp} {x : D} {k : Key} (h : KRel x k) : RD C H x (kV k) := by
  cases x with
  | int i => cases k with
    | inl j => exact (show kV (.inl j) = V.int i from by rw [show i = j from h]; rfl)
    | inr y => exact h.elim
  | str z => cases k with
    | inl j => exact h.elim
    | inr y => exact (show kV (.inr y) = V.str z from by rw [show z = y from h]; rfl)
  | _ => cases k <;> exact h.elim
theorem KRel.hk {x : D} {k : Key} (h : KRel x k) : x.hk1 = true := by
  cases x with
  | int i => rfl
  | str z => rfl
  | _ => cases k <;> exact h.elim
theorem eqv_key {x y : D} {a b : Key} (hx : KRel x a) (hy : KRel y b) : x.eqv y = decide (a = b) := by
  cases x with
  | int i => cases a with
    | inl i' =>
      cases hx
      cases y with
      | int j => cases b with
        | inl j' =>
          cases hy
          show NestedKey.beq (.num i) (.num j) = _
          simp [NestedKey.beq]
        | inr _ => exact hy.elim
      | str z => cases b with
        | inl _ => exact hy.elim
        | inr z' =>
          cases hy
          show NestedKey.beq (.num i) (.text z) = _
          simp [NestedKey.beq]
      | _ => cases b <;> exact hy.elim
    | inr _ => exact hx.elim
  | str s => cases a with
    | inl _ => exact hx.elim
    | inr s' =>
      cases hx
      cases y with
      | int j => cases b with
        | inl j' =>
          cases hy
          show NestedKey.beq (.text s) (.num j) = _
          simp [NestedKey.beq]
        | inr _ => exact hy.elim
      | str z => cases b with
        | inl _ => exact hy.elim
        | inr z' =>
          cases hy
          show NestedKey.beq (.text s) (.text z) = _
          simp only [NestedKey.beq]
          by_cases e : s = z
          · subst e; simp
          · simp [e]
      | _ => cases b <;> exact hy.elim
  | _ => cases a <;> exact hx.elim
section
variable {C : Ct} {H : Hp}
theorem dget_val {x : D} {k : Key} (hx : KRel x k) : ∀ {kvs : List (D × D)} {ks : List (Key × V)}, PD C H kvs ks → (∀ d, dget kvs x = some d → ∃ v, valV ks k = some v ∧ RD C H d v) ∧ dhas kvs x = (valV ks k).isSome
  | _, _, .nil => ⟨fun d e => (nomatch e), rfl⟩
  | _, _, .cons (a := p) (b := q) r t => by
    obtain ⟨h1, h2⟩ := dget_val hx t
    have e := eqv_key r.1 hx
    by_cases hk : q.1 = k
    · rw [decide_eq_true hk] at e
      refine ⟨fun d hd => ?_, ?_⟩
      · simp only [dget, List.find?_cons, e] at hd
        cases hd
        exact ⟨q.2, valV_pos hk, r.2⟩
      · simp only [dhas, List.any_cons, e, Bool.true_or]
        rw [valV_pos hk]
        rfl
    · rw [decide_eq_false hk] at e
      refine ⟨fun d hd => ?_, ?_⟩
      · simp only [dget, List.find?_cons, e] at hd
        rw [valV_neg hk]
        exact h1 d hd
      · simp only [dhas, List.any_cons, e, Bool.false_or]
        rw [valV_neg hk]
        exact h2
theorem pd_map {x d : D} {k : Key} {v : V} (hx : KRel x k) (rd : RD C H d v) : ∀ {kvs : List (D × D)} {ks : List (Key × V)}, PD C H kvs ks → PD C H (kvs.map fun p => if p.1.eqv x then (p.1, d) else p) (ks.map fun kv => if kv.1 = k then (kv.1, v) else kv)
  | _, _, .nil => .nil
  | _, _, .cons (a := p) (b := q) r t => by
    refine .cons ?_ (pd_map hx rd t)
    have e := eqv_key r.1 hx
    show KRel (if p.1.eqv x = true then (p.1, d) else p).1 (if q.1 = k then (q.1, v) else q).1 ∧ RD C H (if p.1.eqv x = true then (p.1, d) else p).2 (if q.1 = k then (q.1, v) else q).2
    by_cases hk : q.1 = k
    · rw [e, if_pos (decide_eq_true hk), if_pos hk]
      exact ⟨r.1, rd⟩
    · rw [e, if_neg (by rw [decide_eq_false hk]; exact Bool.false_ne_true), if_neg hk]
      exact r
theorem pd_app : ∀ {kvs : List (D × D)} {ks : List (Key × V)} {kvs' : List (D × D)} {ks' : List (Key × V)}, PD C H kvs ks → PD C H kvs' ks' → PD C H (kvs ++ kvs') (ks ++ ks')
  | _, _, _, _, .nil, h => h
  | _, _, _, _, .cons r t, h => .cons r (pd_app t h)
theorem pd_put {x d : D} {k : Key} {v : V} (hx : KRel x k) (rd : RD C H d v) {kvs : List (D × D)} {ks : List (Key × V)} (h : PD C H kvs ks) : PD C H (dput kvs x d) (putK ks k v) := by
  have hh := (dget_val hx h).2
  unfold dput putK
  rw [hh]
  have e : (ks.any fun kv => decide (kv.1 = k)) = (valV ks k).isSome := valV_any k ks
  rw [e]
  cases q : (valV ks k).isSome with
  | true => simp only [if_true]; exact pd_map hx rd h
  | false =>
    simp only [Bool.false_eq_true, if_false]
    exact pd_app h (.cons ⟨hx, rd⟩ .nil)
theorem PD.len {kvs : List (D × D)} {ks : List (Key × V)} (h : PD C H kvs ks) : kvs.length = ks.length := Paired.length h
theorem PD.keep {H' : Hp} (k : TupK H H') {kvs : List (D × D)} {ks : List (Key × V)} (h : PD C H kvs ks) : PD C H' kvs ks := Paired.mapP h fun _ _ q => ⟨q.1, q.2.keep k⟩
theorem pd_get {kvs : List (D × D)} {ks : List (Key × V)} (h : PD C H kvs ks) {i : Nat} {p : D × D} (e : kvs[i]? = some p) : ∃ q, ks[i]? = some q ∧ KRel p.1 q.1 ∧ RD C H p.2 q.2 := paired_get h e
theorem pd_keys : ∀ {kvs : List (D × D)} {ks : List (Key × V)}, PD C H kvs ks → RDs C H (kvs.map (·.1)) (ks.map fun q => kV q.1)
  | _, _, .nil => rfl
  | _, _, .cons r t => ⟨_, _, rfl, rd_key r.1, pd_keys t⟩
theorem pd_vals : ∀ {kvs : List (D × D)} {ks : List (Key × V)}, PD C H kvs ks → RDs C H (kvs.map (·.2)) (ks.map (·.2))
  | _, _, .nil => rfl
  | _, _, .cons r t => ⟨_, _, rfl, r.2, pd_vals t⟩
end
/-- the record's entries, by their values -/
theorem entries_vals {P : Program} {w : World} : ∀ {es : List DictEntry} {vs : List (Key × Value)} {ks : List (Key × V)}, Pairs (mixKind P w) es vs → KV ks vs → Vals (ks.map fun q => kV q.1) (es.map (·.key)) ∧ Vals (ks.map (·.2)) (es.map (·.val))
  | _, _, _, .nil, h => by cases h; exact ⟨.nil, .nil⟩
  | _, _, _, .cons h1 h2 t, h => by
    cases h with
    | cons r t2 =>
      obtain ⟨a, b⟩ := entries_vals t t2
      refine ⟨.cons ?_ a, .cons ?_ b⟩
      · show RelV (kV _) _
        rw [r.1]
        exact relV_key h1
      · show RelV _ (DictEntry.val _)
        rw [h2]
        exact r.2
section
variable {ca : Nat → Addr} {X : Cx} {M0 M : Mp} {pins : List (Addr × Obj)} {σ3 : Lo} {σ : L2.St} {H : Hp} {s : Shared}
theorem tail_dict {value slice : Expr} {o i : Value} {Q : Value → Shared → Prop} (hT : s.TypeIs o "dict") (hs : subscripted slice false o i = operate [o, i] (getItem o i)) (h : wpAny (model X.prog X.w) X.A (getItem o i) Q X.xe s) :
    wpAny (model X.prog X.w) X.A (subscriptTail value slice o i) Q X.xe s := by
  unfold subscriptTail
  refine wpAny_bind ?_
  rw [getitemInPython_of_ne hT.not_modules]
  refine wpAny_bind (wpAny_specialOf hT PySem.F.slot_dict_getitem.lookup ?_)
  have last : wpAny (model X.prog X.w) X.A (subscripted slice false o i) (fun r s' => wpAny (model X.prog X.w) X.A (letTemporaryGo value o r >>= fun _ => pure r) Q X.xe s') X.xe s := by
    rw [hs]
    exact wpAny_operating (thn h fun r s' q => wpAny_bind (wpAny_letTemporaryGo (wpAny_pure q)))
  first
    | exact wpAny_pure (wpAny_bind last)
    | exact wpAny_bind (wpAny_pure (wpAny_bind last))
    | exact wpAny_bind last
theorem I3.dictAt (I : I3 (ct X ca) X M0 pins σ3 M σ H s) {a : Addr} {kvs : List (D × D)} (h : M a = some (.dct kvs)) : ∃ ks : List (Key × V), H a = some (.dK ks) ∧ PD (ct X ca) H kvs ks ∧ s.TypeIs (.ref a) "dict" := by
  obtain ⟨ks, e, p⟩ := I.hp.dct h
  obtain ⟨_, _, vs, _, dd⟩ := dk_rd I.inv.hok (.inl e)
  exact ⟨ks, e, p, dd.typeIs⟩
theorem I3.lckAt (I : I3 (ct X ca) X M0 pins σ3 M σ H s) {a : Addr} {kvs : List (D × D)} (h : M a = some (.lck kvs)) : ∃ (ob : Obj) (ks : List (Key × V)), H a = some (.frz ob (.dK ks)) ∧ PD (ct X ca) H kvs ks ∧ s.TypeIs (.ref a) "dict" := by
  obtain ⟨ob, ks, e, p⟩ := I.hp.lck h
  obtain ⟨_, _, vs, _, dd⟩ := dk_rd I.inv.hok (.inr ⟨ob, e⟩)
  exact ⟨ob, ks, e, p, dd.typeIs⟩
end
end L3
end
section
set_option autoImplicit false
set_option linter.all false
set_option maxRecDepth 100000
/-! L3: comparisons, truth, subscripts, slices, by values -/
namespace L3
open PySem L2 PyProof.Rows

section
variable {ca : Nat → Addr} {X : Cx} {M0 M : Mp} {pins : List (Addr × Obj)} {σ3 : Lo} {σ : L2.St} {H : Hp} {s : Shared}
theorem I3.ok (I : I3 (ct X ca) X M0 pins σ3 M σ H s) : HOk (ct X ca).P (ct X ca).w H s.heap := I.inv.hok
theorem I3.kin (I : I3 (ct X ca) X M0 pins σ3 M σ H s) : (ct X ca).K.In s.heap := I.inv.kIn

/-! ### data through the heap -/
/-- the module table is a dict, so it is none of our lists -/
def SysD (K : PySem.W.Frag) : Prop := ∃ o, K.lookup sysModules = some o ∧ o.cls = .type "dict"
mutual
theorem Deep.reads (sy : SysD X.K) (I : I3 (ct X ca) X M0 pins σ3 M σ H s) : ∀ {d : D} {p : PyData} {v : V} {u : Value}, Deep M d p → RD (ct X ca) H d v → RelV v u → ∃ as, Reads s.heap u p as ∧ sysModules ∉ as
  | _, _, v, u, .non, r, q => by rw [show v = .non from r] at q; cases q; exact ⟨_, .none, by simp⟩
  | _, _, v, u, .bl b, r, q => by rw [show v = .bl b from r] at q; cases q; exact ⟨_, .bool b, by simp⟩
  | _, _, v, u, .int i, r, q => by rw [show v = .int i from r] at q; obtain ⟨t, rfl⟩ := q; exact ⟨_, .int i t, by simp⟩
  | _, _, v, u, .str x, r, q => by rw [show v = .str x from r] at q; obtain ⟨t, rfl⟩ := q; exact ⟨_, .str x t, by simp⟩
  | _, _, v, u, .tup (ds := ds) hs, r, q => by
    obtain ⟨a, xs, rfl, hq, rs⟩ := r
    cases q
    rcases hq with hq | ⟨o, its, n, hk, hc, hd, hz, rv⟩
    · obtain ⟨z, its, rv, o, ho, hc, n, hd⟩ := hq.ok I.ok
      obtain ⟨as, h1, h2⟩ := Deeps.reads sy I hs rs rv
      exact ⟨_, .tuple ho hc hd (by simpa using h1), h2⟩
    · obtain ⟨as, h1, h2⟩ := Deeps.reads sy I hs rs rv
      exact ⟨_, .tuple (I.kin a o hk) hc hd h1, h2⟩
  | _, _, v, u, .lst (a := a) hm hs, r, q => by
    rw [show v = .ref a from r] at q
    cases q
    obtain ⟨xs, hx, rs⟩ := I.hp.lst hm
    obtain ⟨z, its, n, rv, e⟩ := I.ok a _ hx
    obtain ⟨as, h1, h2⟩ := Deeps.reads sy I hs rs rv
    refine ⟨_, .list e rfl rfl (by simpa using h1), fun hm => ?_⟩
    rcases List.mem_cons.mp hm with hm | hm
    · obtain ⟨o, ho, hc⟩ := sy
      have := I.kin _ _ ho
      rw [hm, e] at this
      have e2 := Option.some.inj this
      rw [← e2] at hc
      have hc' : Value.type "list" = .type "dict" := hc
      injection hc' with hc'
      exact absurd hc' (by decide)
    · exact h2 hm
  | _, _, v, u, .dct (a := a) (kvs := kvs) hm hk hv, r, q => by
    rw [show v = .ref a from r] at q
    cases q
    obtain ⟨ks, hx, pd⟩ := I.hp.dct hm
    obtain ⟨z, hsys, vs, kv, o, es, ep, ho, hex, hd, _, pr, _⟩ := dk_rd I.ok (.inl hx)
    obtain ⟨v1, v2⟩ := entries_vals pr kv
    obtain ⟨as, h1, h2⟩ := Deeps.reads sy I hk (pd_keys pd) v1
    obtain ⟨bs, h3, h4⟩ := Deeps.reads sy I hv (pd_vals pd) v2
    refine ⟨_, .dict ho hex.1 hd h1 h3, fun hm => ?_⟩
    rcases List.mem_append.mp hm with hm | hm
    · rcases List.mem_cons.mp hm with hm | hm
      · rw [← hm] at hsys
        exact absurd hsys (by decide)
      · exact h2 hm
    · exact h4 hm
theorem Deeps.reads (sy : SysD X.K) (I : I3 (ct X ca) X M0 pins σ3 M σ H s) : ∀ {ds : List D} {ps : List PyData} {vs : List V} {us : List Value}, Deeps M ds ps → RDs (ct X ca) H ds vs → Vals vs us → ∃ as, ReadsAll s.heap us ps as ∧ sysModules ∉ as
  | _, _, vs, us, .nil, r, q => by rw [show vs = [] from r] at q; cases q; exact ⟨_, .nil, by simp⟩
  | _, _, vs, us, .cons h1 h2, r, q => by
    obtain ⟨x, l, rfl, r1, r2⟩ := r
    cases q with
    | cons q1 q2 =>
      obtain ⟨as, g1, g2⟩ := Deep.reads sy I h1 r1 q1
      obtain ⟨bs, g3, g4⟩ := Deeps.reads sy I h2 r2 q2
      exact ⟨_, .cons g1 g3, fun hm => (List.mem_append.mp hm).elim g2 g4⟩
end

/-! ### == and in -/
theorem flat_of {x : D} (h : x.flat = true) : x.pure = true ∧ x.key.depth ≤ 8 := by
  unfold D.flat at h
  rw [Bool.and_eq_true] at h
  exact ⟨h.1, of_decide_eq_true h.2⟩
theorem rc_flat {A : Around} (hu : A.units + 64 < cLine) (I : I3 (ct X ca) X M0 pins σ3 M σ H s) {x y : D} {a b : V} {v u : Value} (rx : RD (ct X ca) H x a) (ry : RD (ct X ca) H y b) (ra : RelV a v) (rb : RelV b u) (fx : x.flat = true) (fy : y.flat = true) : SeqAt.RcAt A s v u (x.eqv y) := by
  obtain ⟨px, dx⟩ := flat_of fx
  obtain ⟨py, dy⟩ := flat_of fy
  exact rcKey _ _ v u (RD.is I.ok I.kin rx ra px) (RD.is I.ok I.kin ry rb py) (by omega)
theorem rcNe_flat {A : Around} (hu : A.units + 64 < cLine) (I : I3 (ct X ca) X M0 pins σ3 M σ H s) {x y : D} {a b : V} {v u : Value} (rx : RD (ct X ca) H x a) (ry : RD (ct X ca) H y b) (ra : RelV a v) (rb : RelV b u) (fx : x.flat = true) (fy : y.flat = true) : SeqAt.RcNeAt A s v u (!x.eqv y) := by
  obtain ⟨px, dx⟩ := flat_of fx
  obtain ⟨py, dy⟩ := flat_of fy
  exact rcNeKey _ _ v u (RD.is I.ok I.kin rx ra px) (RD.is I.ok I.kin ry rb py) (by omega)
open Classical in
/-- an item's answer, by the value that stands there -/
noncomputable def eKey (h : Heap) (kx : NestedKey) (u : Value) : Bool := if ∃ k, NestedIs h k u ∧ NestedKey.beq k kx = true then true else false
theorem eKey_of {h : Heap} {k kx : NestedKey} {u : Value} (r : NestedIs h k u) : eKey h kx u = NestedKey.beq k kx := by
  unfold eKey
  cases e : NestedKey.beq k kx with
  | true => rw [if_pos ⟨k, r, e⟩]
  | false =>
    rw [if_neg]
    rintro ⟨k', r', e'⟩
    rw [NestedIs.inj _ _ _ r' r, e] at e'
    cases e'
theorem any_eKey {C : Ct} {h : Heap} (ok : HOk C.P C.w H h) (kin : C.K.In h) {x : D} : ∀ {ds : List D} {xs : List V} {us : List Value}, RDs C H ds xs → Vals xs us → (∀ d ∈ ds, d.flat = true) → us.any (eKey h x.key) = ds.any fun z => z.eqv x
  | [], xs, us, r, q, _ => by rw [show xs = [] from r] at q; cases q; rfl
  | d :: ds, xs, us, r, q, p => by
    obtain ⟨y, l, rfl, r1, r2⟩ := r
    cases q with
    | cons q1 q2 =>
      rw [List.any_cons, List.any_cons, any_eKey ok kin r2 q2 fun z hz => p z (List.mem_cons_of_mem _ hz), eKey_of (RD.is ok kin r1 q1 (flat_of (p d List.mem_cons_self)).1)]
      rfl
theorem mem_eKey {A : Around} (hu : A.units + 64 < cLine) {C : Ct} (ok : HOk C.P C.w H s.heap) (kin : C.K.In s.heap) {x : D} {v : Value} (hv : NestedIs s.heap x.key v) (hx : x.key.depth ≤ 8) : ∀ {ds : List D} {xs : List V} {us : List Value}, RDs C H ds xs → Vals xs us → (∀ d ∈ ds, d.flat = true) → ∀ u ∈ us, SeqAt.EqAt A s u v (eKey s.heap x.key u)
  | [], xs, us, r, q, _ => by rw [show xs = [] from r] at q; cases q; exact fun _ h => nomatch h
  | d :: ds, xs, us, r, q, p => by
    obtain ⟨y, l, rfl, r1, r2⟩ := r
    cases q with
    | cons q1 q2 =>
      intro u hm
      rcases List.mem_cons.mp hm with e | hm
      · rw [e]
        obtain ⟨pd, dd⟩ := flat_of (p d List.mem_cons_self)
        have hd := RD.is ok kin r1 q1 pd
        rw [eKey_of hd]
        exact eqAt_key _ _ A s _ v hd hv (by omega)
      · exact mem_eKey hu ok kin hv hx r2 q2 (fun z hz => p z (List.mem_cons_of_mem _ hz)) u hm

def cop : COp → CmpOp
  | .eq => .Eq
  | .ne => .NotEq
  | .lt => .Lt
  | .le => .LtE
  | .gt => .Gt
  | .ge => .GtE
  | .isIn => .In
  | .notIn => .NotIn
  | .is => .Is
  | .isNot => .IsNot
/-- a comparison is at its end -/
theorem ep_bl {Q : Post} (I : I3 (ct X ca) X M0 pins σ3 M σ H s) {b : Bool} {s' : Shared} (J : Inv X pins σ H s') (q : Q (.bl b) M) : EP3 (ct X ca) X M0 pins σ3 σ H M Q (.bool b) s' := ep_now (v := .bl b) (d := .bl b) I J rfl rfl q

theorem o_eq (hu : X.A.units + 64 < cLine) (sy : SysD X.K) : Op3 ca X (compareOp .Eq) (fun x y M Q => wpEq x y M fun r => Q (.bl r) M) := by
  intro pins s σ H M0 M σ3 x y a b v u Q I ra rb hx hy h
  have flat : (x.flat = true ∧ y.flat = true) ∧ Q (.bl (x.eqv y)) M → wpAny (model X.prog X.w) X.A (compareOp .Eq v u) (EP3 (ct X ca) X M0 pins σ3 σ H M Q) X.xe s := fun ⟨⟨f1, f2⟩, q⟩ =>
    rc_flat hu I hx hy ra rb f1 f2 _ _ _ _ (ep_bl I I.inv q)
  cases x with
  | ref p => cases y with
    | ref q =>
      obtain ⟨d, e, h1, h2, sd, se, q⟩ := h
      obtain ⟨as, r1, _⟩ := h1.reads sy I hx ra
      obtain ⟨bs, r2, _⟩ := h2.reads sy I hy rb
      exact SeqAt.compareEq_shaped r1 r2 sd se hu (ep_bl I I.inv q)
    | _ => exact flat h
  | _ => exact flat h
theorem o_ne (hu : X.A.units + 64 < cLine) (sy : SysD X.K) : Op3 ca X (compareOp .NotEq) (fun x y M Q => wpEq x y M fun r => Q (.bl (!r)) M) := by
  intro pins s σ H M0 M σ3 x y a b v u Q I ra rb hx hy h
  have flat : (x.flat = true ∧ y.flat = true) ∧ Q (.bl (!x.eqv y)) M → wpAny (model X.prog X.w) X.A (compareOp .NotEq v u) (EP3 (ct X ca) X M0 pins σ3 σ H M Q) X.xe s := fun ⟨⟨f1, f2⟩, q⟩ =>
    rcNe_flat hu I hx hy ra rb f1 f2 _ _ _ _ (ep_bl I I.inv q)
  cases x with
  | ref p => cases y with
    | ref q =>
      obtain ⟨d, e, h1, h2, sd, se, q⟩ := h
      obtain ⟨as, r1, _⟩ := h1.reads sy I hx ra
      obtain ⟨bs, r2, _⟩ := h2.reads sy I hy rb
      exact SeqAt.compareNe_shaped r1 r2 sd se hu (ep_bl I I.inv q)
    | _ => exact flat h
  | _ => exact flat h
theorem str1 {x : Str} (h : x.length = 1) : x = ⟨#[x.cps.getD 0 0]⟩ := by
  obtain ⟨cps⟩ := x
  have h' : cps.size = 1 := h
  congr 1
  apply Array.ext
  · simpa using h'
  · intro i h1 h2
    have : i = 0 := by omega
    subst this
    simp [Array.getD, h1]
theorem o_in (hu : X.A.units + 80 < cLine) : Op3 ca X (compareOp .In) (fun x y M Q => wpIn x y M fun r => Q (.bl r) M) := by
  intro pins s σ H M0 M σ3 x y a b v u Q I ra rb hx hy h
  cases y with
  | tup ds =>
    obtain ⟨⟨fx, fd⟩, q⟩ := h
    obtain ⟨p, xs, rfl, hq, rs⟩ := hy
    cases rb
    obtain ⟨its, r, pl, hz⟩ := I.inv.tuple hq
    obtain ⟨px, dx⟩ := flat_of fx
    refine SeqAt.in_tupleAt (eKey s.heap x.key) pl (fun w hw => mem_eKey (by have e : X.A.in1.units = X.A.units + 1 := rfl; omega) I.ok I.kin (RD.is I.ok I.kin hx ra px) dx rs r fd w (by simpa using hw)) (ep_bl I I.inv ?_)
    rw [show its.toArray.any (eKey s.heap x.key) = its.any (eKey s.heap x.key) by simp, any_eKey I.ok I.kin rs r fd]
    exact q
  | str z => cases x with
    | str x =>
      obtain ⟨h1, q⟩ := h
      rw [show a = .str x from hx] at ra
      rw [show b = .str z from hy] at rb
      refine thn (op_in_sign pins s σ H _ _ v u (QV (ct X ca) H M Q) I.inv ra rb ⟨x.cps.getD 0 0, z, by rw [← str1 h1], rfl, qv_bl I.hp q⟩) fun _ _ e => ep_of I e
    | _ => exact h.elim
  | ref p =>
    rw [show b = .ref p from hy] at rb
    cases rb
    have h' : (match M p with
      | some (.lst ds) => (x.flat = true ∧ (∀ d ∈ ds, d.flat = true)) ∧ Q (.bl (ds.any fun z => z.eqv x)) M
      | some (.dct kvs) => x.hk1 = true ∧ Q (.bl (dhas kvs x)) M
      | _ => False) := h
    cases e : M p with
    | none => rw [e] at h'; exact h'.elim
    | some o =>
      rw [e] at h'
      cases o with
      | lst ds =>
        obtain ⟨⟨fx, fd⟩, q⟩ := h'
        obtain ⟨xs, hxs, rs⟩ := I.hp.lst e
        obtain ⟨its, r, pl, hz⟩ := I.inv.list (SqL.of hxs)
        obtain ⟨px, dx⟩ := flat_of fx
        refine SeqAt.in_listAt (eKey s.heap x.key) pl.isList (fun w hw => mem_eKey (by have e : X.A.in1.units = X.A.units + 1 := rfl; omega) I.ok I.kin (RD.is I.ok I.kin hx ra px) dx rs r fd w (by simpa using hw)) (ep_bl I I.inv ?_)
        rw [show its.toArray.any (eKey s.heap x.key) = its.any (eKey s.heap x.key) by simp, any_eKey I.ok I.kin rs r fd]
        exact q
      | dct kvs =>
        obtain ⟨hk, q⟩ := h'
        obtain ⟨ks, hx2, pd, ty⟩ := I.dictAt e
        obtain ⟨kk, rfl, kr⟩ := key_rd hx hk
        refine d_in (by omega) I.inv (DGet.k (k := kk) hx2) ra fun s' J => ep_bl I J ?_
        rw [← (dget_val kr pd).2]
        exact q
      | _ => exact h'.elim
  | _ => exact h.elim
theorem o_notIn (hu : X.A.units + 80 < cLine) : Op3 ca X (compareOp .NotIn) (fun x y M Q => wpIn x y M fun r => Q (.bl (!r)) M) := by
  intro pins s σ H M0 M σ3 x y a b v u Q I ra rb hx hy h
  cases y with
  | tup ds =>
    obtain ⟨⟨fx, fd⟩, q⟩ := h
    obtain ⟨p, xs, rfl, hq, rs⟩ := hy
    cases rb
    obtain ⟨its, r, pl, hz⟩ := I.inv.tuple hq
    obtain ⟨px, dx⟩ := flat_of fx
    refine SeqAt.notIn_tupleAt (eKey s.heap x.key) pl (fun w hw => mem_eKey (by have e : X.A.in1.units = X.A.units + 1 := rfl; omega) I.ok I.kin (RD.is I.ok I.kin hx ra px) dx rs r fd w (by simpa using hw)) (ep_bl I I.inv ?_)
    rw [show its.toArray.any (eKey s.heap x.key) = its.any (eKey s.heap x.key) by simp, any_eKey I.ok I.kin rs r fd]
    exact q
  | str z => cases x with
    | str x =>
      obtain ⟨h1, q⟩ := h
      rw [show a = .str x from hx] at ra
      rw [show b = .str z from hy] at rb
      refine thn (op_notIn_sign pins s σ H _ _ v u (QV (ct X ca) H M Q) I.inv ra rb ⟨x.cps.getD 0 0, z, by rw [← str1 h1], rfl, qv_bl I.hp q⟩) fun _ _ e => ep_of I e
    | _ => exact h.elim
  | ref p =>
    rw [show b = .ref p from hy] at rb
    cases rb
    have h' : (match M p with
      | some (.lst ds) => (x.flat = true ∧ (∀ d ∈ ds, d.flat = true)) ∧ Q (.bl (!ds.any fun z => z.eqv x)) M
      | some (.dct kvs) => x.hk1 = true ∧ Q (.bl (!dhas kvs x)) M
      | _ => False) := h
    cases e : M p with
    | none => rw [e] at h'; exact h'.elim
    | some o =>
      rw [e] at h'
      cases o with
      | lst ds =>
        obtain ⟨⟨fx, fd⟩, q⟩ := h'
        obtain ⟨xs, hxs, rs⟩ := I.hp.lst e
        obtain ⟨its, r, pl, hz⟩ := I.inv.list (SqL.of hxs)
        obtain ⟨px, dx⟩ := flat_of fx
        refine SeqAt.notIn_listAt (eKey s.heap x.key) pl.isList (fun w hw => mem_eKey (by have e : X.A.in1.units = X.A.units + 1 := rfl; omega) I.ok I.kin (RD.is I.ok I.kin hx ra px) dx rs r fd w (by simpa using hw)) (ep_bl I I.inv ?_)
        rw [show its.toArray.any (eKey s.heap x.key) = its.any (eKey s.heap x.key) by simp, any_eKey I.ok I.kin rs r fd]
        exact q
      | dct kvs =>
        obtain ⟨hk, q⟩ := h'
        obtain ⟨ks, hx2, pd, ty⟩ := I.dictAt e
        obtain ⟨kk, rfl, kr⟩ := key_rd hx hk
        refine d_notIn (by omega) I.inv (DGet.k (k := kk) hx2) ra fun s' J => ep_bl I J ?_
        rw [← (dget_val kr pd).2]
        exact q
      | _ => exact h'.elim
  | _ => exact h.elim
theorem RD.decN {C : Ct} {x : D} {v : V} (r : RD C H x v) (hx : ∀ c ds, x ≠ .exn c ds) : decide (v = .non) = x.isNon := by
  cases x with
  | non => have e : v = .non := r; subst e; rfl
  | tup ds => obtain ⟨a, xs, rfl, _⟩ := r; rfl
  | kl ds => obtain ⟨a, xs, rfl, _⟩ := r; rfl
  | exn c ds => exact absurd rfl (hx c ds)
  | bl b => have e : v = .bl b := r; subst e; rfl
  | int b => have e : v = .int b := r; subst e; rfl
  | str b => have e : v = .str b := r; subst e; rfl
  | ref b => have e : v = .ref b := r; subst e; rfl
theorem isC {x y : D} {k : Bool → Prop} (h : wpCmp .is x y M k) : (∃ a b, x = .bl a ∧ y = .bl b ∧ k (a == b)) ∨ (y = .non ∧ k x.isNon) := by
  cases y with
  | non => exact .inr ⟨rfl, by cases x <;> exact h⟩
  | bl b => cases x with
    | bl a => exact .inl ⟨a, b, rfl, rfl, h⟩
    | _ => exact h.elim
  | _ => cases x <;> exact False.elim h
theorem isNotC {x y : D} {k : Bool → Prop} (h : wpCmp .isNot x y M k) : (∃ a b, x = .bl a ∧ y = .bl b ∧ k (!(a == b))) ∨ (y = .non ∧ k (!x.isNon)) := by
  cases y with
  | non => exact .inr ⟨rfl, by cases x <;> exact h⟩
  | bl b => cases x with
    | bl a => exact .inl ⟨a, b, rfl, rfl, h⟩
    | _ => exact h.elim
  | _ => cases x <;> exact False.elim h
theorem RD.noexn {C : Ct} {x : D} {v : V} (r : RD C H x v) : ∀ c ds, x ≠ .exn c ds := fun c ds e => by
  subst e
  exact False.elim r
theorem o_is : Op3 ca X (compareOp .Is) (fun x y M Q => wpCmp .is x y M fun r => Q (.bl r) M) := by
  intro pins s σ H M0 M σ3 x y a b v u Q I ra rb hx hy h
  rcases isC h with ⟨c, d, rfl, rfl, q⟩ | ⟨rfl, q⟩
  · rw [show a = .bl c from hx] at ra
    rw [show b = .bl d from hy] at rb
    refine thn (op_isBl pins s σ H _ _ v u (QV (ct X ca) H M Q) I.inv ra rb ⟨c, d, rfl, rfl, ?_⟩) fun _ _ e => ep_of I e
    have : decide (c = d) = (c == d) := by cases c <;> cases d <;> rfl
    rw [this]
    exact qv_bl I.hp q
  · rw [show b = .non from hy] at rb
    refine thn (op_isN pins s σ H _ _ v u (QV (ct X ca) H M Q) I.inv ra rb ⟨rfl, ?_⟩) fun _ _ e => ep_of I e
    rw [hx.decN hx.noexn]
    exact qv_bl I.hp q
theorem o_isNot : Op3 ca X (compareOp .IsNot) (fun x y M Q => wpCmp .isNot x y M fun r => Q (.bl r) M) := by
  intro pins s σ H M0 M σ3 x y a b v u Q I ra rb hx hy h
  rcases isNotC h with ⟨c, d, rfl, rfl, q⟩ | ⟨rfl, q⟩
  · rw [show a = .bl c from hx] at ra
    rw [show b = .bl d from hy] at rb
    refine thn (op_notBl pins s σ H _ _ v u (QV (ct X ca) H M Q) I.inv ra rb ⟨c, d, rfl, rfl, ?_⟩) fun _ _ e => ep_of I e
    have : decide (c = d) = (c == d) := by cases c <;> cases d <;> rfl
    rw [this]
    exact qv_bl I.hp q
  · rw [show b = .non from hy] at rb
    refine thn (op_notN pins s σ H _ _ v u (QV (ct X ca) H M Q) I.inv ra rb ⟨rfl, ?_⟩) fun _ _ e => ep_of I e
    rw [hx.decN hx.noexn]
    exact qv_bl I.hp q
theorem o_lt : Op3 ca X (compareOp .Lt) (fun x y M Q => wpCmp .lt x y M fun r => Q (.bl r) M) := op3_of op_lt fun H M x y a b Q r hx hy h => by
  cases x with
  | int i => cases y with
    | int j => exact ⟨i, j, hx, hy, qv_bl r h⟩
    | _ => exact h.elim
  | _ => exact h.elim
theorem o_le : Op3 ca X (compareOp .LtE) (fun x y M Q => wpCmp .le x y M fun r => Q (.bl r) M) := op3_of op_le fun H M x y a b Q r hx hy h => by
  cases x with
  | int i => cases y with
    | int j => exact ⟨i, j, hx, hy, qv_bl r h⟩
    | _ => exact h.elim
  | _ => exact h.elim
theorem o_gt : Op3 ca X (compareOp .Gt) (fun x y M Q => wpCmp .gt x y M fun r => Q (.bl r) M) := op3_of op_gt fun H M x y a b Q r hx hy h => by
  cases x with
  | int i => cases y with
    | int j => exact ⟨i, j, hx, hy, qv_bl r h⟩
    | _ => exact h.elim
  | _ => exact h.elim
theorem o_ge : Op3 ca X (compareOp .GtE) (fun x y M Q => wpCmp .ge x y M fun r => Q (.bl r) M) := op3_of op_ge fun H M x y a b Q r hx hy h => by
  cases x with
  | int i => cases y with
    | int j => exact ⟨i, j, hx, hy, qv_bl r h⟩
    | _ => exact h.elim
  | _ => exact h.elim
theorem o_cmp (hu : X.A.units + 80 < cLine) (sy : SysD X.K) (o : COp) : Op3 ca X (compareOp (cop o)) (fun x y M Q => wpCmp o x y M fun r => Q (.bl r) M) := by
  cases o with
  | eq => exact o_eq (by omega) sy
  | ne => exact o_ne (by omega) sy
  | lt => exact o_lt
  | le => exact o_le
  | gt => exact o_gt
  | ge => exact o_ge
  | isIn => exact o_in hu
  | notIn => exact o_notIn hu
  | is => exact o_is
  | isNot => exact o_isNot
/-! ### truth -/
theorem o_tru {x : D} {a : V} {v : Value} {k : Bool → Mp → Prop} (I : I3 (ct X ca) X M0 pins σ3 M σ H s) (ra : RelV a v) (hx : RD (ct X ca) H x a) (h : truthy x M fun b => k b M) : wpAny (model X.prog X.w) X.A (PySem.truthy v) (TP3 (ct X ca) X M0 pins σ3 σ H M k) X.xe s := by
  have fin : ∀ {b : Bool}, TruV X.K a H b → k b M → wpAny (model X.prog X.w) X.A (PySem.truthy v) (TP3 (ct X ca) X M0 pins σ3 σ H M k) X.xe s := fun {b} ht hk =>
    thn (tru_ok pins s σ H a v (fun c H' => H' = H ∧ c = b) I.inv ra ⟨b, ht, rfl, rfl⟩) fun c s' ⟨H', J, e1, e2⟩ => by
      subst e1; subst e2
      exact ⟨M, H', I.same J, Stp.refl, hk⟩
  cases x with
  | non => have e : a = .non := hx; subst e; exact fin (b := false) rfl h
  | bl b => have e : a = .bl b := hx; subst e; exact fin (b := b) rfl h
  | int i => have e : a = .int i := hx; subst e; exact fin (b := i != 0) rfl h
  | str x =>
    have e : a = .str x := hx; subst e
    refine fin (b := x.length != 0) ⟨h.1, ?_⟩ h.2
    rw [Bool.eq_iff_iff]; simp
  | tup ds =>
    obtain ⟨p, xs, rfl, hq, rs⟩ := hx
    refine fin (b := !ds.isEmpty) (.inr (.inl ⟨xs, hq, ?_⟩)) h
    have := rs.length
    cases ds <;> cases xs <;> simp_all
  | ref p =>
    have e : a = .ref p := hx; subst e
    have h' : (match M p with
      | some (.lst ds) => k (!ds.isEmpty) M
      | _ => False) := h
    cases e : M p with
    | none => rw [e] at h'; exact h'.elim
    | some o =>
      rw [e] at h'
      cases o with
      | lst ds =>
        obtain ⟨xs, hxs, rs⟩ := I.hp.lst e
        refine fin (b := !ds.isEmpty) (.inl ⟨xs, SqL.of hxs, ?_⟩) h'
        have := rs.length
        cases ds <;> cases xs <;> simp_all
      | _ => exact h'.elim
  | kl ds => exact h.elim
  | exn c ds => exact h.elim
/-! ### one place -/
theorem o_neg {x : D} {a : V} {v : Value} {Q : Post} (I : I3 (ct X ca) X M0 pins σ3 M σ H s) (ra : RelV a v) (hx : RD (ct X ca) H x a) (h : wpUn .neg x M Q) : wpAny (model X.prog X.w) X.A (unaryOp .USub v) (EP3 (ct X ca) X M0 pins σ3 σ H M Q) X.xe s := by
  cases x with
  | int i => exact thn (un_neg pins s σ H a v (QV (ct X ca) H M Q) I.inv ra ⟨i, hx, qv_int I.hp h⟩) fun _ _ e => ep_of I e
  | _ => exact h.elim
/-! ### subscripts -/
theorem atD_atI {α : Type} {ds : List D} {xs : List α} (hl : ds.length = xs.length) {i : Int} {d : D} (h : atD ds i = some d) : ∃ j : Nat, ds[j]? = some d ∧ ixN xs.length i = some j ∧ j < xs.length := by
  unfold atD at h
  by_cases h0 : 0 ≤ i
  · rw [if_pos h0] at h
    obtain ⟨hj, _⟩ := List.getElem?_eq_some_iff.mp h
    refine ⟨i.toNat, h, ?_, by omega⟩
    unfold ixN
    rw [if_pos h0, if_pos (by omega)]
  · rw [if_neg h0] at h
    by_cases h1 : 0 ≤ i + ds.length
    · rw [if_pos h1] at h
      refine ⟨(i + ds.length).toNat, h, ?_, by omega⟩
      unfold ixN
      rw [if_neg h0, if_pos (by omega), hl]
    · rw [if_neg h1] at h
      cases h
theorem o_ix (hu : X.A.units + 1 < cLine) {value slice : Expr} {x y : D} {a b : V} {v u : Value} {Q : Post} (I : I3 (ct X ca) X M0 pins σ3 M σ H s) (ra : RelV a v) (rb : RelV b u) (hx : RD (ct X ca) H x a) (hy : RD (ct X ca) H y b) (h : wpIx x y M Q)
    (hs : subscripted slice false v u = operate [v, u] (getItem v u)) : wpAny (model X.prog X.w) X.A (subscriptTail value slice v u) (EP3 (ct X ca) X M0 pins σ3 σ H M Q) X.xe s := by
  have at_ : ∀ {ds : List D} {xs : List V} {i : Int} {d : D}, RDs (ct X ca) H ds xs → atD ds i = some d → ∃ w, atI xs i = some w ∧ RD (ct X ca) H d w := fun {ds xs i d} rs e => by
    obtain ⟨j, h1, h2, h3⟩ := atD_atI rs.length e
    obtain ⟨w, h4, h5⟩ := rs.get h1
    exact ⟨w, by unfold atI; rw [h2]; exact h4, h5⟩
  cases x with
  | tup ds => cases y with
    | int i =>
      obtain ⟨d, e, q⟩ := h
      obtain ⟨p, xs, rfl, hq, rs⟩ := hx
      obtain ⟨w, h4, h5⟩ := at_ rs e
      exact thn (ix_tup value slice pins s σ H _ b v u (QV (ct X ca) H M Q) I.inv ra rb ⟨p, xs, i, w, rfl, hy, hq, h4, qv_now I.hp h5 q⟩ hs) fun _ _ e => ep_of I e
    | _ => exact h.elim
  | str z => cases y with
    | int i =>
      obtain ⟨c, hz, e, q⟩ := h
      obtain ⟨j, h1, h2, h3⟩ := atD_atI (xs := z.cps.toList) (by rw [List.length_map]) e
      rw [List.getElem?_map] at h1
      cases g : z.cps.toList[j]? with
      | none => rw [g] at h1; cases h1
      | some k =>
        rw [g] at h1
        cases h1
        exact thn (ix_str value slice pins s σ H a b v u (QV (ct X ca) H M Q) I.inv ra rb ⟨z, i, k, hx, hy, hz, by unfold atI; rw [h2]; exact g, qv_str I.hp q⟩ hs) fun _ _ e => ep_of I e
    | _ => exact h.elim
  | kl ds => cases y with
    | int i =>
      obtain ⟨d, e1, q⟩ := h
      obtain ⟨p, xs, rfl, hq, rs⟩ := hx
      obtain ⟨w, h4, h5⟩ := at_ rs e1
      exact thn (ix_list value slice pins s σ H _ b v u (QV (ct X ca) H M Q) I.inv ra rb ⟨p, xs, i, w, rfl, hy, hq.sq, h4, qv_now I.hp h5 q⟩ hs) fun _ _ e => ep_of I e
    | _ => exact h.elim
  | ref p =>
    have e : a = .ref p := hx; subst e
    cases e : M p with
    | none => simp only [wpIx, e] at h
    | some o =>
      cases o with
      | lst ds => cases y with
        | int i =>
          simp only [wpIx, e] at h
          obtain ⟨d, e1, q⟩ := h
          obtain ⟨xs, hxs, rs⟩ := I.hp.lst e
          obtain ⟨w, h4, h5⟩ := at_ rs e1
          exact thn (ix_list value slice pins s σ H _ b v u (QV (ct X ca) H M Q) I.inv ra rb ⟨p, xs, i, w, rfl, hy, SqL.of hxs, h4, qv_now I.hp h5 q⟩ hs) fun _ _ e => ep_of I e
        | _ => simp only [wpIx, e] at h
      | dct kvs =>
        simp only [wpIx, e] at h
        obtain ⟨hk, d, hd, q⟩ := h
        obtain ⟨ks, hx2, pd, ty⟩ := I.dictAt e
        obtain ⟨kk, rfl, kr⟩ := key_rd hy hk
        obtain ⟨w, h4, h5⟩ := (dget_val kr pd).1 d hd
        cases ra
        refine tail_dict ty hs (d_getItem hu I.inv (v := w) ?_ rb fun w' s' J rw' => ep_now I J rw' h5 q)
        rw [← h4]
        exact DGet.k hx2
      | lck kvs =>
        simp only [wpIx, e] at h
        obtain ⟨hk, d, hd, q⟩ := h
        obtain ⟨ob, ks, hx2, pd, ty⟩ := I.lckAt e
        obtain ⟨kk, rfl, kr⟩ := key_rd hy hk
        obtain ⟨w, h4, h5⟩ := (dget_val kr pd).1 d hd
        cases ra
        refine tail_dict ty hs (d_getItem hu I.inv (v := w) ?_ rb fun w' s' J rw' => ep_now I J rw' h5 q)
        rw [← h4]
        exact .inl ⟨ks, kk, .inr ⟨ob, hx2⟩, rfl, rfl⟩
      | _ => simp only [wpIx, e] at h
  | _ => exact h.elim
end
end L3
end
section
set_option autoImplicit false
set_option linter.all false
set_option maxRecDepth 100000
/-! L3: built-ins and methods by values -/
namespace L3
open PySem L2 PyProof.Rows

section
variable {ca : Nat → Addr} {X : Cx} {M0 M : Mp} {pins : List (Addr × Obj)} {σ3 : Lo} {σ : L2.St} {H : Hp} {s : Shared}
/-- a call by values -/
def Fn3 (ca : Nat → Addr) (X : Cx) (f : Value) (w : List D → Mp → Post → Prop) : Prop :=
  ∀ (pins : List (Addr × Obj)) (s : Shared) (σ : L2.St) (H : Hp) (M0 M : Mp) (σ3 : Lo) (ds : List D) (vs : List V) (us : List Value) (Q : Post), I3 (ct X ca) X M0 pins σ3 M σ H s → Vals vs us → RDs (ct X ca) H ds vs → w ds M Q →
    wpAny (model X.prog X.w) X.A (call f us) (EP3 (ct X ca) X M0 pins σ3 σ H M Q) X.xe s
/-- a built-in method's call by values -/
def Mt3 (ca : Nat → Addr) (X : Cx) (id : String) (w : D → List D → Mp → Post → Prop) : Prop :=
  ∀ (pins : List (Addr × Obj)) (s : Shared) (σ : L2.St) (H : Hp) (M0 M : Mp) (σ3 : Lo) (x : D) (a : V) (v : Value) (ds : List D) (vs : List V) (us : List Value) (Q : Post), I3 (ct X ca) X M0 pins σ3 M σ H s → RelV a v → RD (ct X ca) H x a → Vals vs us → RDs (ct X ca) H ds vs → w x ds M Q →
    wpAny (model X.prog X.w) X.A (call (.builtin id) (v :: us)) (EP3 (ct X ca) X M0 pins σ3 σ H M Q) X.xe s
theorem RDs.one {C : Ct} {d : D} {vs : List V} (r : RDs C H [d] vs) : ∃ v, vs = [v] ∧ RD C H d v := by
  obtain ⟨x, l, rfl, h1, h2⟩ := r
  rw [show l = [] from h2]
  exact ⟨x, rfl, h1⟩
theorem RDs.two {C : Ct} {d e : D} {vs : List V} (r : RDs C H [d, e] vs) : ∃ v w, vs = [v, w] ∧ RD C H d v ∧ RD C H e w := by
  obtain ⟨x, l, rfl, h1, h2⟩ := r
  obtain ⟨y, rfl, h3⟩ := h2.one
  exact ⟨x, y, rfl, h1, h3⟩

theorem RDs.mk1 {C : Ct} {d : D} {v : V} (r : RD C H d v) : RDs C H [d] [v] := ⟨v, [], rfl, r, rfl⟩
theorem f_len : Fn3 ca X (.builtin "len") (wpBlt .len) := by
  intro pins s σ H M0 M σ3 ds vs us Q I rv rd h
  have go : ∀ {x : V} {n : Nat}, vs = [x] → LenV X.K x H n → Q (.int n) M → wpAny (model X.prog X.w) X.A (call (.builtin "len") us) (EP3 (ct X ca) X M0 pins σ3 σ H M Q) X.xe s := fun {x n} e hl q =>
    thn (call_len pins s σ H vs us (QV (ct X ca) H M Q) I.inv rv ⟨x, n, e, hl, qv_int I.hp q⟩) fun _ _ e => ep_of I e
  match ds, h with
  | [.tup xs], h =>
    obtain ⟨x, e, p, ys, rfl, hq, rs⟩ := rd.one
    exact go e (.inr ⟨ys, hq, rfl⟩) (by rw [← rs.length]; exact h)
  | [.kl xs], h =>
    obtain ⟨x, e, p, ys, rfl, hq, rs⟩ := rd.one
    exact go e (.inl ⟨ys, hq.sq, rfl⟩) (by rw [← rs.length]; exact h)
  | [.str x], h =>
    obtain ⟨y, e, r⟩ := rd.one
    have r' : y = .str x := r
    subst r'
    exact go e ⟨h.1, rfl⟩ h.2
  | [.ref a], h =>
    obtain ⟨y, e, r⟩ := rd.one
    have r' : y = .ref a := r
    subst r'
    cases g : M a with
    | none => simp only [wpBlt, g] at h
    | some o =>
      cases o with
      | lst xs =>
        simp only [wpBlt, g] at h
        obtain ⟨ys, hx, rs⟩ := I.hp.lst g
        exact go e (.inl ⟨ys, SqL.of hx, rfl⟩) (by rw [← rs.length]; exact h)
      | _ => simp only [wpBlt, g] at h
theorem f_int : Fn3 ca X (.type "int") (wpBlt .int) := by
  intro pins s σ H M0 M σ3 ds vs us Q I rv rd h
  match ds, h with
  | [.int i], h =>
    obtain ⟨y, e, r⟩ := rd.one
    have r' : y = .int i := r
    subst r'
    exact thn (call_int1 pins s σ H vs us (QV (ct X ca) H M Q) I.inv rv (.inl ⟨i, e, qv_int I.hp h⟩)) fun _ _ e => ep_of I e
  | [.bl b], h =>
    obtain ⟨y, e, r⟩ := rd.one
    have r' : y = .bl b := r
    subst r'
    exact thn (call_int1 pins s σ H vs us (QV (ct X ca) H M Q) I.inv rv (.inr ⟨b, e, qv_int I.hp h⟩)) fun _ _ e => ep_of I e
theorem f_repr (hg : X.A.guards = some []) (hu : X.A.units + 80 < cLine) (sy : SysD X.K) : Fn3 ca X (.builtin "repr") (wpBlt .repr) := by
  intro pins s σ H M0 M σ3 ds vs us Q I rv rd h
  match ds, h with
  | [d], h =>
    obtain ⟨p, hd, hs, hz, hp, q⟩ := h
    obtain ⟨y, rfl, r⟩ := rd.one
    obtain ⟨u, rfl, rx⟩ := vals1 rv
    obtain ⟨as, rr, nd⟩ := hd.reads sy I r rx
    have fin : ∀ (h' : Heap) (t tk : Tok), (∀ b o, s.heap.get? b = some o → h'.get? b = some o) → EP3 (ct X ca) X M0 pins σ3 σ H M Q (.str p.shown t) { s with heap := h', toks := tk } := fun h' t tk k =>
      ep_now (v := .str p.shown) (d := .str p.shown) I (I.inv.kept k) ⟨_, rfl⟩ rfl q
    cases rr with
    | none => exact PySem.P.repr_of_none (fin s.heap _ _ fun _ _ e => e)
    | bool b => exact PySem.P.repr_of_bool (by simp only [PyData.shown] at fin ⊢; exact fin s.heap _ _ fun _ _ e => e)
    | int i t => exact PySem.P.repr_of_int (by simpa [PyData.showable] using hs) (by simp only [PyData.shown] at fin; exact fin s.heap _ _ fun _ _ e => e)
    | str x t => exact PySem.P.repr_of_str (by simp only [PyData.shown] at fin; exact fin s.heap _ _ fun _ _ e => e) (by simpa only [PyData.shown] using hz)
    | list h1 h2 h3 h4 => exact repr_of_reads' (.list h1 h2 h3 h4) hs (fun _ => nd) hg (by omega) (fun _ _ e => e) (fun h' u tk k => fin h' u tk k) hz
    | tuple h1 h2 h3 h4 => exact repr_of_reads' (.tuple h1 h2 h3 h4) hs (fun _ => nd) hg (by omega) (fun _ _ e => e) (fun h' u tk k => fin h' u tk k) hz
    | dict h1 h2 h3 h4 h5 => exact repr_of_reads' (.dict h1 h2 h3 h4 h5) hs (fun _ => nd) hg (by omega) (fun _ _ e => e) (fun h' u tk k => fin h' u tk k) hz
theorem f_max (hc : X.calm = true) : Fn3 ca X (.builtin "max") (wpBlt .max) := by
  intro pins s σ H M0 M σ3 ds vs us Q I rv rd h
  match ds, h with
  | [.int i, .int j], h =>
    obtain ⟨v, w, e, r1, r2⟩ := rd.two
    have e1 : v = .int i := r1
    have e2 : w = .int j := r2
    subst e1 e2
    exact thn (call_max2 hc pins s σ H vs us (QV (ct X ca) H M Q) I.inv rv ⟨i, j, e, qv_int I.hp h⟩) fun _ _ e => ep_of I e
theorem f_min (hc : X.calm = true) : Fn3 ca X (.builtin "min") (wpBlt .min) := by
  intro pins s σ H M0 M σ3 ds vs us Q I rv rd h
  match ds, h with
  | [.int i, .int j], h =>
    obtain ⟨v, w, e, r1, r2⟩ := rd.two
    have e1 : v = .int i := r1
    have e2 : w = .int j := r2
    subst e1 e2
    exact thn (call_min2 hc pins s σ H vs us (QV (ct X ca) H M Q) I.inv rv ⟨i, j, e, qv_int I.hp h⟩) fun _ _ e => ep_of I e
theorem f_abs : Fn3 ca X (.builtin "abs") (wpBlt .abs) := by
  intro pins s σ H M0 M σ3 ds vs us Q I rv rd h
  match ds, h with
  | [.int i], h =>
    obtain ⟨y, e, r⟩ := rd.one
    have r' : y = .int i := r
    subst r'
    exact thn (call_abs pins s σ H vs us (QV (ct X ca) H M Q) I.inv rv ⟨i, e, qv_int I.hp h⟩) fun _ _ e => ep_of I e
theorem f_str : Fn3 ca X (.type "str") (wpBlt .str) := by
  intro pins s σ H M0 M σ3 ds vs us Q I rv rd h
  match ds, h with
  | [.int i], h =>
    obtain ⟨y, e, r⟩ := rd.one
    have r' : y = .int i := r
    subst r'
    exact thn (call_str_int pins s σ H vs us (QV (ct X ca) H M Q) I.inv rv ⟨i, e, h.1, qv_str I.hp h.2⟩) fun _ _ e => ep_of I e
/-- a method by values -/
theorem mt3_of {id : String} {w : D → List D → Mp → Post → Prop} {r : V → List V → Hp → VK → Prop} (hm : MtR X id r)
    (h : ∀ (H : Hp) (M : Mp) (x : D) (a : V) (ds : List D) (vs : List V) (Q : Post), RM (ct X ca) H M → RD (ct X ca) H x a → RDs (ct X ca) H ds vs → w x ds M Q → r a vs H (QV (ct X ca) H M Q)) : Mt3 ca X id w :=
  fun pins s σ H M0 M σ3 x a v ds vs us Q I ra hx rv rd hw => thn (hm pins s σ H a vs v us _ I.inv ra rv (h H M x a ds vs Q I.hp hx rd hw)) fun _ _ q => ep_of I q
/-- a list is written -/
theorem qv_wr {C : Ct} {Q : Post} {a : Addr} {ds es : List D} {ys : List V} {v : V} {d : D} (r : RM C H M) (hm : M a = some (.lst ds)) (rs : RDs C H es ys) (rd : RD C H d v) (q : Q d (mset M a (.lst es))) :
    QV C H M Q v (upd H a (.lst ys)) :=
  ⟨d, mset M a (.lst es), r.write hm (RDs.keep (r.tupKw hm) rs), write_stp r hm, rd.keep (r.tupKw hm), q⟩
theorem m_append : Mt3 ca X "list.append" (fun x ds M Q => rcv x M = some .lst ∧ wpMth .append x ds M Q) := mt3_of mt_append fun H M x a ds vs Q r hx hd ⟨hk, h⟩ => by
  cases x with
  | ref p =>
    have e : a = .ref p := hx; subst e
    cases g : M p with
    | none => simp only [wpMth, g] at h
    | some o =>
      cases o with
      | lst ys =>
        match ds, h with
        | [d], h =>
          simp only [wpMth, g] at h
          obtain ⟨xs, hxs, rs⟩ := r.lst g
          obtain ⟨v, rfl, rv⟩ := hd.one
          exact ⟨p, xs, v, rfl, rfl, hxs, by rw [← rs.length]; exact h.1, qv_wr r g (RDs.append rs (RDs.mk1 rv)) (show RD (ct X ca) H .non .non from rfl) h.2⟩
        | [], h => simp only [wpMth, g] at h
        | _ :: _ :: _, h => simp only [wpMth, g] at h
      | _ => simp only [rcv, g] at hk; try cases hk
  | _ => exact absurd hk (by simp [rcv])
theorem m_extend : Mt3 ca X "list.extend" (fun x ds M Q => rcv x M = some .lst ∧ wpMth .extend x ds M Q) := by
  intro pins s σ H M0 M σ3 x a v ds vs us Q I ra hx rv rd ⟨hk, h⟩
  cases x with
  | ref p =>
    have e : a = .ref p := hx; subst e
    cases g : M p with
    | none => simp only [wpMth, g] at h
    | some o =>
      cases o with
      | lst ys =>
        match ds, h with
        | [.ref b], h =>
          simp only [wpMth, g, wpExt] at h
          cases gb : M b with
          | none => simp only [gb] at h
          | some o2 =>
            cases o2 with
            | lst zs =>
              simp only [gb] at h
              obtain ⟨xs, hxs, rs⟩ := I.hp.lst g
              obtain ⟨ws, hws, rs2⟩ := I.hp.lst gb
              obtain ⟨w, rfl, rw'⟩ := rd.one
              have ew : w = .ref b := rw'
              subst ew
              refine thn (mt_extend pins s σ H (.ref p) [.ref b] v us (QV (ct X ca) H M Q) I.inv ra rv ⟨p, b, xs, ws, rfl, rfl, hxs, hws, by rw [← rs.length, ← rs2.length]; exact h.1, qv_wr I.hp g (RDs.append rs rs2) (show RD (ct X ca) H .non .non from rfl) h.2⟩) fun _ _ e => ep_of I e
            | _ => simp only [gb] at h
        | [], h => simp only [wpMth, g] at h
        | [.tup ys], h => simp only [wpMth, g, wpExt] at h
        | [.non], h => simp only [wpMth, g, wpExt] at h
        | [.bl _], h => simp only [wpMth, g, wpExt] at h
        | [.int _], h => simp only [wpMth, g, wpExt] at h
        | [.str _], h => simp only [wpMth, g, wpExt] at h
        | [.kl _], h => simp only [wpMth, g, wpExt] at h
        | [.exn _ _], h => simp only [wpMth, g, wpExt] at h
        | _ :: _ :: _, h => simp only [wpMth, g] at h
      | _ => simp only [rcv, g] at hk; try cases hk
  | _ => exact absurd hk (by simp [rcv])
theorem m_tupIndex : Mt3 ca X "tuple.index" (fun x ds M Q => rcv x M = some .tup ∧ wpMth .index x ds M Q) := mt3_of mt_tup_index fun H M x a ds vs Q r hx hd ⟨hk, h⟩ => by
  cases x with
  | tup xs =>
    match ds, h with
    | [d], h =>
      obtain ⟨ys, z, j, e1, e2, h1, h2, q⟩ := h
      subst e1 e2
      obtain ⟨p, ws, rfl, hq, rs⟩ := hx
      obtain ⟨v, rfl, rv⟩ := hd.one
      have ev : v = .str z := rv
      subst ev
      have ew : ∀ {ys : List Str} {ws : List V}, RDs (ct X ca) H (ys.map D.str) ws → ws = ys.map V.str := by
        intro ys
        induction ys with
        | nil => intro ws r; exact r
        | cons y ys ih =>
          intro ws r
          obtain ⟨w, l, rfl, r1, r2⟩ := r
          rw [ih r2, show w = .str y from r1]
          rfl
      rw [ew rs] at hq
      exact ⟨p, ys, z, j, rfl, rfl, hq, h1, h2, qv_int r q⟩
    | [], h => exact h.elim
    | _ :: _ :: _, h => exact h.elim
  | ref p =>
    exfalso
    cases g : M p with
    | none => simp only [rcv, g] at hk; cases hk
    | some o => cases o <;> (simp only [rcv, g] at hk; cases hk)
  | _ => cases hk
theorem m_strIndex : Mt3 ca X "str.index" (fun x ds M Q => rcv x M = some .str ∧ wpMth .index x ds M Q) := mt3_of mt_sindex fun H M x a ds vs Q r hx hd ⟨hk, h⟩ => by
  cases x with
  | str z =>
    match ds, h with
    | [.str y], h =>
      obtain ⟨i, rest, ho, q⟩ := h
      obtain ⟨v, rfl, rv⟩ := hd.one
      exact ⟨z, y, i, rest, hx, by rw [show v = .str y from rv], ho, qv_int r q⟩
    | [], h => exact h.elim
    | _ :: _ :: _, h => simp only [wpMth] at h
  | ref p =>
    exfalso
    cases g : M p with
    | none => simp only [rcv, g] at hk; cases hk
    | some o => cases o <;> (simp only [rcv, g] at hk; cases hk)
  | _ => cases hk
end
end L3
end
section
set_option autoImplicit false
set_option linter.all false
set_option maxRecDepth 100000
/-! L3: the small language's preconditions are sound for expressions -/
namespace L3
open PySem L2 PyProof.Rows

/-! ### what a def promises -/
def CR3 (C : Ct) (outer : List Env) (H : Hp) (M : Mp) (s : Shared) (Q : Post) (r : Result) (s' : Shared) : Prop := match r with
  | .ok (.ret u) => CE outer C.P C.w H s (QV C H M Q) u s'
  | _ => False
structure FnG (C : Ct) (mg : Str → Option Value) (base : Heap) (k : Nat) (f : Addr) (fd : FuncData) (ps : List Str) (sp : Spec) : Prop where
  len : ∀ ds M Q X, sp ds M Q X → ds.length = ps.length
  run : ∀ (A : Around) (outer : List Env) (s : Shared) (H : Hp) (args : Args) (us : List Value) (vs : List V) (ds : List D) (M : Mp) (Q : Post) (X : Xp),
    Room k A → A.guards = some [] → Env0 C.P C.w C.K mg base A outer s H → BindsTo s fd args (ps.zip us) → Vals vs us → RDs C H ds vs → RM C H M → sp ds M Q X →
    codeAny (model C.P C.w) A (.call (.ref f) args) (CR3 C outer H M s Q) s
theorem FnG.mono {C : Ct} {mg : Str → Option Value} {base : Heap} {j k : Nat} {f : Addr} {fd : FuncData} {ps : List Str} {sp : Spec} (F : FnG C mg base j f fd ps sp) (h : j ≤ k) : FnG C mg base k f fd ps sp :=
  ⟨F.len, fun A outer s H args us vs ds M Q X hr => F.run A outer s H args us vs ds M Q X (hr.mono h)⟩

section
variable {ca : Nat → Addr} {X : Cx} {M0 M : Mp} {pins : List (Addr × Obj)} {σ3 : Lo} {σ : L2.St} {H : Hp} {s : Shared}
theorem run_fng {k : Nat} {f : Addr} {fd : FuncData} {ps : List Str} {sp : Spec} {us : List Value} {vs : List V} {ds : List D} {Q : Post} {X3 : Xp} (F : FnG (ct X ca) X.mg X.base k f fd ps sp) (hr : Room k X.A) (hg : X.A.guards = some []) (hb : Binds X.K fd ps [])
    (I : I3 (ct X ca) X M0 pins σ3 M σ H s) (r : Vals vs us) (rd : RDs (ct X ca) H ds vs) (h : sp ds M Q X3) : wpAny (model X.prog X.w) X.A (call (.ref f) us) (EP3 (ct X ca) X M0 pins σ3 σ H M Q) X.xe s := by
  have hl : (us ++ []).length = ps.length := by rw [List.append_nil, ← r.length, ← rd.length]; exact F.len _ _ _ _ h
  have hb' := hb s us I.inv.kIn hl
  rw [List.append_nil] at hb'
  refine wpAny_call (codeAny_mono (F.run X.A X.stack s H ⟨us, []⟩ us vs ds M Q X3 hr hg I.inv.env0 hb' r rd I.hp h) fun res s' hq => ?_)
  match res, hq with
  | .ok (.ret u), hq => exact ep_of I (I.inv.after hq)

/-! ### the context -/
/-- what the names of the module stand for -/
structure GOk (ca : Nat → Addr) (X : Cx) (P : Pr) (gl : List (Str × GR)) : Prop where
  fn : ∀ x i, gl.lookup x = some (.fn i) → ∃ k f fd ps, X.mg x = some (.ref f) ∧ PySem.W.keepIn X.K (.ref f) = true ∧ Binds X.K fd ps [] ∧ Room k X.A ∧ FnG (ct X ca) X.mg X.base k f fd ps (P.sp i)
  blt : ∀ x, gl.lookup x = some .blt → X.mg x = none
  cls : ∀ x c i, gl.lookup x = some (.cls c i) → ∃ k f fd ps, X.mg x = some (.ref (ca c)) ∧ Mk X.K (ca c) f ∧ Binds X.K fd ps [] ∧ Room (k + 1) X.A ∧ FnG (ct X ca) X.mg X.base k f fd ps (P.sp i)
  mth : ∀ m c i, gl.lookup (dotted m) = some (.mth c i) → ∃ k f fd ps, Cls X.K (ca c) ∧ Meth X.K (ca c) m f ∧ Binds X.K fd ps [] ∧ Room k X.A ∧ FnG (ct X ca) X.mg X.base k f fd ps (P.sp i)
  fl : ∀ c f, P.fl c f = true → Cls X.K (ca c) ∧ NoAttr X.K (ca c) f
  con : ∀ x d, gl.lookup x = some (.con d) → ∃ u v, X.mg x = some u ∧ RelV v u ∧ (∀ H, RD (ct X ca) H d v) ∧ ∀ ds, d = .tup ds → ∃ a o, v = .ref a ∧ X.K.lookup a = some o ∧ o.cls = .type "tuple" ∧ o.dict = none
structure Ok3 (ca : Nat → Addr) (X : Cx) (P : Pr) (cc : CC) : Prop where
  N : cc.N = X.N
  sc : cc.sc = X.env.scope
  nd : X.N.Nodup
  g : GOk ca X P cc.gl
  hu : X.A.units + 80 < cLine
  hg : X.A.guards = some []
  hc : X.calm = true
  sy : SysD X.K
  cell : cc.cs = true → ∀ x, X.env.scope.names.lookup x = some .cell → X.fn x = true

def SndE (ca : Nat → Addr) (X : Cx) (M0 : Mp) (P : Pr) (X3 : Xp) (e : Expr) (i : E) : Prop :=
  ∀ (pins : List (Addr × Obj)) (s : Shared) (σ : L2.St) (H : Hp) (σ3 : Lo) (M : Mp) (Q : Post), I3 (ct X ca) X M0 pins σ3 M σ H s → wpE P X3 i σ3 M Q →
    wpAny (model X.prog X.w) X.A (eval e X.env) (EP3 (ct X ca) X M0 pins σ3 σ H M Q) X.xe s
def SndEs (ca : Nat → Addr) (X : Cx) (M0 : Mp) (P : Pr) (X3 : Xp) (es : List Expr) (i : Es) : Prop :=
  ∀ (pos : Pos) (pins : List (Addr × Obj)) (s : Shared) (σ : L2.St) (H : Hp) (σ3 : Lo) (M : Mp) (Q : List D → Mp → Prop), I3 (ct X ca) X M0 pins σ3 M σ H s → wpEs P X3 i σ3 M Q →
    wpAny (model X.prog X.w) X.A (spliced (backTo pos (starEach es X.env))) (EPs3 (ct X ca) X M0 pins σ3 σ H M Q) X.xe s
def SndT (ca : Nat → Addr) (X : Cx) (M0 : Mp) (P : Pr) (X3 : Xp) (e : Expr) (i : T) : Prop :=
  ∀ (whole : Sem Value) (pins : List (Addr × Obj)) (s : Shared) (σ : L2.St) (H : Hp) (σ3 : Lo) (M : Mp) (k : Bool → Mp → Prop), (whole = eval e X.env ∨ ∃ o l p, e = .BoolOp o l p) → I3 (ct X ca) X M0 pins σ3 M σ H s → wpT P X3 i σ3 M k →
    wpAny (model X.prog X.w) X.A (isTrue e X.env whole) (TP3 (ct X ca) X M0 pins σ3 σ H M k) X.xe s

theorem findIdx_get {N : List Str} {x : Str} {i : Nat} (h : N.findIdx? (· == x) = some i) : N[i]? = some x := by
  obtain ⟨hl, he, _⟩ := List.findIdx?_eq_some_iff_getElem.mp h
  rw [List.getElem?_eq_getElem hl]
  simpa using he
theorem slot_ok {P : Pr} {cc : CC} {x : Str} {i : Nat} (ok : Ok3 ca X P cc) (h : cc.slot x = some i) : X.N[i]? = some x ∧ Vis X.env.scope x ∧ (x == ("__debug__" : Str)) = false ∧ (x == ("__classdict__" : Str)) = false := by
  unfold CC.slot at h
  rw [ok.N, ok.sc] at h
  cases e1 : (x == ("__debug__" : Str)) with
  | true => rw [e1] at h; cases h
  | false =>
    cases e2 : (x == ("__classdict__" : Str)) with
    | true => rw [e1, e2] at h; cases h
    | false =>
      rw [e1, e2] at h
      cases e : X.env.scope.names.lookup x with
      | none => rw [e] at h; cases h
      | some k =>
        rw [e] at h
        cases k with
        | «local» => exact ⟨findIdx_get h, .inl e, rfl, rfl⟩
        | cell => exact ⟨findIdx_get h, .inr (.inl e), rfl, rfl⟩
        | free => exact ⟨findIdx_get h, .inr (.inr e), rfl, rfl⟩
        | _ => cases h
theorem slotW_ok {P : Pr} {cc : CC} {x : Str} {i : Nat} (ok : Ok3 ca X P cc) (h : cc.slotW x = some i) : X.N[i]? = some x ∧ Loc X.env.scope x ∧ (X.fn x = true ∨ X.env.scope.names.lookup x = some .local) := by
  unfold CC.slotW at h
  rw [ok.N, ok.sc] at h
  cases e : X.env.scope.names.lookup x with
  | none => rw [e] at h; cases h
  | some k =>
    rw [e] at h
    cases k with
    | «local» => exact ⟨findIdx_get h, .inl e, .inr rfl⟩
    | cell =>
      cases ec : cc.cs with
      | true => exact ⟨findIdx_get (by rw [ec] at h; exact h), .inr e, .inl (ok.cell ec x e)⟩
      | false => rw [ec] at h; cases h
    | _ => cases h
theorem glob_ok {P : Pr} {cc : CC} {x : Str} {g : GR} (ok : Ok3 ca X P cc) (h : cc.glob x = some g) : Gl X x ∧ cc.gl.lookup x = some g ∧ (x == ("__debug__" : Str)) = false ∧ x ≠ "__name__" := by
  unfold CC.glob at h
  rw [ok.sc] at h
  cases e1 : (x == ("__debug__" : Str)) with
  | true => rw [e1] at h; cases h
  | false =>
    cases e2 : (x == ("__name__" : Str)) with
    | true => rw [e1, e2] at h; cases h
    | false =>
      rw [e1, e2] at h
      cases e : X.env.scope.names.lookup x with
      | none => rw [e] at h; cases h
      | some k =>
        rw [e] at h
        cases k with
        | globalImplicit => exact ⟨e, h, rfl, by simpa using e2⟩
        | _ => cases h

variable {P : Pr} {X3 : Xp} {cc : CC}
/-! ### one rule a construct -/
theorem s_var {x : Str} {pos : Pos} {i : Nat} (ok : Ok3 ca X P cc) (h : cc.slot x = some i) : SndE ca X M0 P X3 (.Name x pos) (.var i) := by
  intro pins s σ H σ3 M Q I hw
  obtain ⟨hN, hv, hd, hcd⟩ := slot_ok ok h
  obtain ⟨d, e, q⟩ := hw
  obtain ⟨v, ev, rd⟩ := I.lo.2 i d e
  exact thn ((pe_var hN hv hd hcd).run pins s σ H (QV (ct X ca) H M Q) I.inv ⟨v, ev, qv_now I.hp rd q⟩) fun _ _ e => ep_of I e
theorem s_con {x : Str} {pos : Pos} {d : D} (ok : Ok3 ca X P cc) (h : cc.glob x = some (.con d)) : SndE ca X M0 P X3 (.Name x pos) (.con d) := by
  intro pins s σ H σ3 M Q I hw
  obtain ⟨hg, hl, hd, _⟩ := glob_ok ok h
  obtain ⟨u, v, hm, rv, rd, _⟩ := ok.g.con x d hl
  exact ld_glob I.inv hg hm (ep_now I I.inv rv (rd H) hw) hd
theorem s_int {i : Int} {j : Nat} {pos : Pos} : SndE ca X M0 P X3 (.Constant (.int i) j pos) (.int i) := fun pins s σ H σ3 M Q I hw =>
  thn (pe_int.run pins s σ H (QV (ct X ca) H M Q) I.inv (qv_int I.hp hw)) fun _ _ e => ep_of I e
theorem s_bl {i : Bool} {j : Nat} {pos : Pos} : SndE ca X M0 P X3 (.Constant (.bool i) j pos) (.bl i) := fun pins s σ H σ3 M Q I hw =>
  thn (pe_bl.run pins s σ H (QV (ct X ca) H M Q) I.inv (qv_bl I.hp hw)) fun _ _ e => ep_of I e
theorem s_str {i : Str} {j : Nat} {pos : Pos} : SndE ca X M0 P X3 (.Constant (.str i) j pos) (.str i) := fun pins s σ H σ3 M Q I hw =>
  thn (pe_str.run pins s σ H (QV (ct X ca) H M Q) I.inv (qv_str I.hp hw)) fun _ _ e => ep_of I e
theorem s_non {j : Nat} {pos : Pos} : SndE ca X M0 P X3 (.Constant .none j pos) .non := fun pins s σ H σ3 M Q I hw =>
  thn (pe_non.run pins s σ H (QV (ct X ca) H M Q) I.inv (qv_non I.hp hw)) fun _ _ e => ep_of I e
/-- two in a row -/
theorem two {a b : Expr} {ia ib : E} (ha : SndE ca X M0 P X3 a ia) (hb : SndE ca X M0 P X3 b ib) {R : D → D → Mp → Prop} (I : I3 (ct X ca) X M0 pins σ3 M σ H s)
    (hw : wpE P X3 ia σ3 M fun x M1 => wpE P X3 ib σ3 M1 fun y M2 => R x y M2) {α : Type} {F : Value → Value → Sem α} {Z : α → Shared → Prop}
    (h : ∀ (v u : Value) (s2 : Shared) (x y : D) (av bv : V) (M2 : Mp) (H2 : Hp), I3 (ct X ca) X M0 pins σ3 M2 σ H2 s2 → RelV av v → RelV bv u → RD (ct X ca) H2 x av → RD (ct X ca) H2 y bv → Stp H M H2 M2 → R x y M2 → wpAny (model X.prog X.w) X.A (F v u) Z X.xe s2) :
    wpAny (model X.prog X.w) X.A (eval a X.env) (fun v s₁ => wpAny (model X.prog X.w) X.A (eval b X.env) (fun u s₂ => wpAny (model X.prog X.w) X.A (F v u) Z X.xe s₂) X.xe s₁) X.xe s := by
  refine thn (ha pins s σ H σ3 M _ I hw) fun v s1 ⟨x, M1, av, H1, I1, rv, rd, st, hw1⟩ => ?_
  refine thn (hb pins s1 σ H1 σ3 M1 _ I1 hw1) fun u s2 ⟨y, M2, bv, H2, I2, rv2, rd2, st2, hw2⟩ => ?_
  exact h v u s2 x y av bv M2 H2 I2 rv rv2 (rd.keep (st2.tupK I1.hp)) rd2 (st.trans st2) hw2
theorem ep_st {H1 : Hp} {M1 : Mp} {Q : Post} {u : Value} {s' : Shared} (st : Stp H M H1 M1) (h : EP3 (ct X ca) X M0 pins σ3 σ H1 M1 Q u s') : EP3 (ct X ca) X M0 pins σ3 σ H M Q u s' := ep_after st h
theorem tp_st {H1 : Hp} {M1 : Mp} {k : Bool → Mp → Prop} {b : Bool} {s' : Shared} (st : Stp H M H1 M1) (h : TP3 (ct X ca) X M0 pins σ3 σ H1 M1 k b s') : TP3 (ct X ca) X M0 pins σ3 σ H M k b s' := by
  obtain ⟨M', H', I, st', q⟩ := h
  exact ⟨M', H', I, st.trans st', q⟩
theorem s_bin {a b : Expr} {ia ib : E} {pos : Pos} {o : Operator} {o' : BOp} (ho : cBop o = some o') (ha : SndE ca X M0 P X3 a ia) (hb : SndE ca X M0 P X3 b ib) : SndE ca X M0 P X3 (.BinOp a o b pos) (.bin o' ia ib) := by
  intro pins s σ H σ3 M Q I hw
  have e : o = bop o' := by
    cases o <;> cases o' <;> first | rfl | cases ho
  subst e
  refine wpAny_BinOp (two ha hb I hw fun v u s2 x y av bv M2 H2 I2 rv rv2 rd rd2 st q => ?_)
  exact thn (o_bin o' pins s2 σ H2 M0 M2 σ3 x y av bv v u Q I2 rv rv2 rd rd2 q) fun _ _ e => ep_st st e
theorem cop_c (o : CmpOp) : cop (cCop o) = o := by cases o <;> rfl
theorem s_cmp {a b : Expr} {ia ib : E} {pos : Pos} {o : CmpOp} (ok : Ok3 ca X P cc) (hm : behindInMarks o b = false) (ha : SndE ca X M0 P X3 a ia) (hb : SndE ca X M0 P X3 b ib) : SndE ca X M0 P X3 (.Compare a [o] [b] pos) (.cmp (cCop o) ia ib) := by
  intro pins s σ H σ3 M Q I hw
  refine wpAny_Compare1 (two ha hb I hw fun v u s2 x y av bv M2 H2 I2 rv rv2 rd rd2 st q => ?_) hm
  have := o_cmp ok.hu ok.sy (cCop o) (ca := ca) pins s2 σ H2 M0 M2 σ3 x y av bv v u Q I2 rv rv2 rd rd2 q
  rw [cop_c] at this
  exact thn this fun _ _ e => ep_st st e
theorem s_cmpT {a b : Expr} {ia ib : E} {pos : Pos} {o : CmpOp} (ok : Ok3 ca X P cc) (hm : behindInMarks o b = false) (ha : SndE ca X M0 P X3 a ia) (hb : SndE ca X M0 P X3 b ib) : SndT ca X M0 P X3 (.Compare a [o] [b] pos) (.val (.cmp (cCop o) ia ib)) := by
  intro whole pins s σ H σ3 M k hwh I hw
  refine wpAny_isTrue_Compare1 (two ha hb I hw fun v u s2 x y av bv M2 H2 I2 rv rv2 rd rd2 st q => ?_) hm
  have := o_cmp ok.hu ok.sy (cCop o) (ca := ca) pins s2 σ H2 M0 M2 σ3 x y av bv v u (fun x M1 => L3.truthy x M1 fun r => k r M1) I2 rv rv2 rd rd2 q
  rw [cop_c] at this
  exact thn this fun c s3 ⟨d, M3, v3, H3, I3', r3, rd3, st3, q3⟩ => thn (o_tru I3' r3 rd3 q3) fun _ _ e => tp_st (st.trans st3) e
theorem s_un {a : Expr} {ia : E} {pos : Pos} (ha : SndE ca X M0 P X3 a ia) : SndE ca X M0 P X3 (.UnaryOp .USub a pos) (.un .neg ia) := by
  intro pins s σ H σ3 M Q I hw
  refine UnaryOp_ (thn (ha pins s σ H σ3 M _ I hw) fun v s1 ⟨x, M1, av, H1, I1, rv, rd, st, hw1⟩ => ?_)
  exact thn (o_neg I1 rv rd hw1) fun _ _ e => ep_st st e
theorem s_not {a : Expr} {ia : E} {pos : Pos} (ha : SndE ca X M0 P X3 a ia) : SndE ca X M0 P X3 (.UnaryOp .Not a pos) (.not ia) := by
  intro pins s σ H σ3 M Q I hw
  refine UnaryOp_ (thn (ha pins s σ H σ3 M _ I hw) fun v s1 ⟨x, M1, av, H1, I1, rv, rd, st, hw1⟩ => ?_)
  refine not_of (thn (o_tru (k := fun r M1 => Q (.bl (!r)) M1) I1 rv rd hw1) fun c s2 ⟨M2, H2, I2, st2, q2⟩ => ?_)
  exact ep_st (st.trans st2) (ep_bl I2 I2.inv q2)
theorem s_and {a b : Expr} {l : List Expr} {ia ib : E} {pos : Pos} (ha : SndE ca X M0 P X3 a ia) (hb : SndE ca X M0 P X3 (.BoolOp .And (b :: l) pos) ib) : SndE ca X M0 P X3 (.BoolOp .And (a :: b :: l) pos) (.and ia ib) := by
  intro pins s σ H σ3 M Q I hw
  refine BoolOp_and (thn (ha pins s σ H σ3 M _ I hw) fun v s1 ⟨x, M1, av, H1, I1, rv, rd, st, hw1⟩ => ?_)
  refine thn (o_tru (k := fun r M1 => if r = true then wpE P X3 ib σ3 M1 Q else Q x M1) I1 rv rd hw1) fun c s2 ⟨M2, H2, I2, st2, q2⟩ => ?_
  cases c with
  | true => exact thn (hb pins s2 σ H2 σ3 M2 Q I2 q2) fun _ _ e => ep_st (st.trans st2) e
  | false => exact ⟨x, M2, av, H2, I2, rv, rd.keep (st2.tupK I1.hp), st.trans st2, q2⟩
theorem s_or {a b : Expr} {l : List Expr} {ia ib : E} {pos : Pos} (ha : SndE ca X M0 P X3 a ia) (hb : SndE ca X M0 P X3 (.BoolOp .Or (b :: l) pos) ib) : SndE ca X M0 P X3 (.BoolOp .Or (a :: b :: l) pos) (.or ia ib) := by
  intro pins s σ H σ3 M Q I hw
  refine BoolOp_or (thn (ha pins s σ H σ3 M _ I hw) fun v s1 ⟨x, M1, av, H1, I1, rv, rd, st, hw1⟩ => ?_)
  refine thn (o_tru (k := fun r M1 => if r = true then Q x M1 else wpE P X3 ib σ3 M1 Q) I1 rv rd hw1) fun c s2 ⟨M2, H2, I2, st2, q2⟩ => ?_
  cases c with
  | false => exact thn (hb pins s2 σ H2 σ3 M2 Q I2 q2) fun _ _ e => ep_st (st.trans st2) e
  | true => exact ⟨x, M2, av, H2, I2, rv, rd.keep (st2.tupK I1.hp), st.trans st2, q2⟩
theorem s_ite {c a b : Expr} {ic : T} {ia ib : E} {pos : Pos} (hc : SndT ca X M0 P X3 c ic) (ha : SndE ca X M0 P X3 a ia) (hb : SndE ca X M0 P X3 b ib) : SndE ca X M0 P X3 (.IfExp c a b pos) (.ite ic ia ib) := by
  intro pins s σ H σ3 M Q I hw
  refine wpAny_IfExp (thn (hc _ pins s σ H σ3 M _ (.inl rfl) I hw) fun d s1 ⟨M1, H1, I1, st, hw1⟩ => ?_)
  cases d with
  | true => exact thn (ha pins s1 σ H1 σ3 M1 Q I1 hw1) fun _ _ e => ep_st st e
  | false => exact thn (hb pins s1 σ H1 σ3 M1 Q I1 hw1) fun _ _ e => ep_st st e
theorem s_nil : SndEs ca X M0 P X3 [] .nil := fun pos pins s σ H σ3 M Q I hw => Calls.spliced_nil ⟨[], M, [], H, I, .nil, rfl, Stp.refl, hw⟩
theorem star_ok {e : Expr} {es : List Expr} {env : Env} (h : notStar e = true) : starEach (e :: es) env = (false, eval e env) :: starEach es env := by
  cases e <;> first | rfl | cases h
theorem s_cons {e : Expr} {es : List Expr} {ie : E} {ies : Es} (hn : notStar e = true) (ha : SndE ca X M0 P X3 e ie) (hb : SndEs ca X M0 P X3 es ies) : SndEs ca X M0 P X3 (e :: es) (.cons ie ies) := by
  intro pos pins s σ H σ3 M Q I hw
  rw [star_ok hn]
  show wpAny _ _ (spliced ((false, eval e X.env) :: backTo pos (starEach es X.env))) _ _ s
  refine Calls.spliced_cons (thn (ha pins s σ H σ3 M _ I hw) fun v s1 ⟨x, M1, av, H1, I1, rv, rd, st, hw1⟩ => ?_)
  refine thn (hb pos pins s1 σ H1 σ3 M1 _ I1 hw1) fun us s2 ⟨ds, M2, vs, H2, I2, rv2, rd2, st2, hw2⟩ => ?_
  exact ⟨x :: ds, M2, av :: vs, H2, I2, .cons rv rv2, ⟨av, vs, rfl, rd.keep (st2.tupK I1.hp), rd2⟩, st.trans st2, hw2⟩
theorem s_tup {es : List Expr} {ies : Es} {x1 : Nat} {pos : Pos} (h : SndEs ca X M0 P X3 es ies) : SndE ca X M0 P X3 (.Tuple es x1 pos) (.tup ies) := by
  intro pins s σ H σ3 M Q I hw
  refine wpAny_Tuple_spliced (thn (h pos pins s σ H σ3 M _ I hw) fun us s1 ⟨ds, M1, vs, H1, I1, rv, rd, st, hz, q⟩ => ⟨by rw [← rv.length, ← rd.length]; exact hz, ?_⟩)
  have hf : H1 s1.heap.objs.size = none := I1.inv.hok.fresh (Nat.le_refl _)
  have J : Inv X pins σ (upd H1 s1.heap.objs.size (.tup vs)) { s1 with heap := s1.heap.push { cls := .type "tuple", data := .seq us.toArray } } :=
    I1.inv.laid (t' := s1.toks) (fun b u e => Heap.get?_push_of_some _ e) (Nat.le_refl _) ⟨by rw [← rd.length]; exact hz, us, rv, ⟨_, Heap.get?_push_size _ rfl, rfl, _, rfl⟩⟩
  exact ep_st st (ep_of I1 ⟨.ref s1.heap.objs.size, _, J, rfl, qv_tup I1.hp hf rd q⟩)
theorem s_lst {es : List Expr} {ies : Es} {pos : Pos} (h : SndEs ca X M0 P X3 es ies) : SndE ca X M0 P X3 (.List es pos) (.lst ies) := by
  intro pins s σ H σ3 M Q I hw
  refine wpAny_List_spliced (thn (h pos pins s σ H σ3 M _ I hw) fun us s1 ⟨ds, M1, vs, H1, I1, rv, rd, st, hz, q⟩ => ⟨by rw [← rv.length, ← rd.length]; exact hz, ?_⟩)
  have hf : H1 s1.heap.objs.size = none := I1.inv.hok.fresh (Nat.le_refl _)
  have J : Inv X pins σ (upd H1 s1.heap.objs.size (.lst vs)) { s1 with heap := s1.heap.push { cls := .type "list", data := .seq us.toArray } } :=
    I1.inv.laid (t' := s1.toks) (fun b u e => Heap.get?_push_of_some _ e) (Nat.le_refl _) ⟨by rw [← rd.length]; exact hz, us, 0, rv, Heap.get?_push_size _ rfl⟩
  exact ep_st st (ep_of I1 ⟨.ref s1.heap.objs.size, _, J, rfl, qv_new I1.hp hf (m := .lst ds) rd q⟩)
theorem sub_ok {b : Expr} (h : notSlice b = true) (o i : Value) : subscripted b false o i = operate [o, i] (getItem o i) := by
  cases b <;> first | rfl | cases h
theorem s_ix {a b : Expr} {ia ib : E} {pos : Pos} (ok : Ok3 ca X P cc) (hn : notSlice b = true) (ha : SndE ca X M0 P X3 a ia) (hb : SndE ca X M0 P X3 b ib) : SndE ca X M0 P X3 (.Subscript a b pos) (.ix ia ib) := by
  intro pins s σ H σ3 M Q I hw
  refine Subscript_ (two ha hb I hw fun v u s2 x y av bv M2 H2 I2 rv rv2 rd rd2 st q => ?_)
  exact thn (o_ix (by have := ok.hu; omega) I2 rv rv2 rd rd2 q (sub_ok hn v u)) fun _ _ e => ep_st st e
/-! ### tests -/
theorem t_val {e : Expr} {ie : E} (hp : plainTest e = true) (h : SndE ca X M0 P X3 e ie) : SndT ca X M0 P X3 e (.val ie) := by
  intro whole pins s σ H σ3 M k hwh I hw
  have hwh' : whole = eval e X.env := by
    rcases hwh with z | ⟨o, l, p, z⟩
    · exact z
    · subst z; cases hp
  subst hwh'
  have he : isTrue e X.env (eval e X.env) = (do let v ← eval e X.env; standAt e.pos; holding [v] (PySem.truthy v)) := by
    cases e <;> first | rfl | cases hp
  refine isTrue_plain (thn (h pins s σ H σ3 M _ I hw) fun v s1 ⟨x, M1, av, H1, I1, rv, rd, st, hw1⟩ => ?_) he
  exact thn (o_tru I1 rv rd hw1) fun _ _ e => tp_st st e
theorem t_not {a : Expr} {ia : T} {pos : Pos} (h : SndT ca X M0 P X3 a ia) : SndT ca X M0 P X3 (.UnaryOp .Not a pos) (.not ia) := by
  intro whole pins s σ H σ3 M k hwh I hw
  refine isTrue_not (thn (h _ pins s σ H σ3 M _ (.inl rfl) I hw) fun c s1 ⟨M1, H1, I1, st, q⟩ => ⟨M1, H1, I1, st, q⟩)
theorem t_and {a b : Expr} {l : List Expr} {ia ib : T} {pos : Pos} (ha : SndT ca X M0 P X3 a ia) (hb : SndT ca X M0 P X3 (.BoolOp .And (b :: l) pos) ib) : SndT ca X M0 P X3 (.BoolOp .And (a :: b :: l) pos) (.and ia ib) := by
  intro whole pins s σ H σ3 M k hwh I hw
  refine isTrue_and (thn (ha _ pins s σ H σ3 M _ (.inl rfl) I hw) fun c s1 ⟨M1, H1, I1, st, q⟩ => ?_)
  cases c with
  | true => exact thn (hb whole pins s1 σ H1 σ3 M1 k (.inr ⟨_, _, _, rfl⟩) I1 q) fun _ _ e => tp_st st e
  | false => exact ⟨M1, H1, I1, st, q⟩
theorem t_or {a b : Expr} {l : List Expr} {ia ib : T} {pos : Pos} (ha : SndT ca X M0 P X3 a ia) (hb : SndT ca X M0 P X3 (.BoolOp .Or (b :: l) pos) ib) : SndT ca X M0 P X3 (.BoolOp .Or (a :: b :: l) pos) (.or ia ib) := by
  intro whole pins s σ H σ3 M k hwh I hw
  refine isTrue_or (thn (ha _ pins s σ H σ3 M _ (.inl rfl) I hw) fun c s1 ⟨M1, H1, I1, st, q⟩ => ?_)
  cases c with
  | false => exact thn (hb whole pins s1 σ H1 σ3 M1 k (.inr ⟨_, _, _, rfl⟩) I1 q) fun _ _ e => tp_st st e
  | true => exact ⟨M1, H1, I1, st, q⟩
theorem t_one {o : BoolOp} {a : Expr} {ia : T} {pos : Pos} (ha : SndT ca X M0 P X3 a ia) : SndT ca X M0 P X3 (.BoolOp o [a] pos) ia := by
  intro whole pins s σ H σ3 M k hwh I hw
  cases o with
  | And =>
    refine isTrue_and (thn (ha _ pins s σ H σ3 M k (.inl rfl) I hw) fun c s1 e => ?_)
    cases c with
    | true => exact isTrue_and_nil e
    | false => exact e
  | Or =>
    refine isTrue_or (thn (ha _ pins s σ H σ3 M k (.inl rfl) I hw) fun c s1 e => ?_)
    cases c with
    | false => exact isTrue_or_nil e
    | true => exact e
end
end L3
end
section
set_option autoImplicit false
set_option linter.all false
set_option maxRecDepth 100000
/-! L3: calls -/
namespace L3
open PySem L2 PyProof.Rows

section
variable {ca : Nat → Addr} {X : Cx} {M0 M : Mp} {pins : List (Addr × Obj)} {σ3 : Lo} {σ : L2.St} {H : Hp} {s : Shared} {P : Pr} {X3 : Xp} {cc : CC}
def Plain (es : List Expr) : Prop := ∀ e ∈ es, notStar e = true
theorem plain_any {pos : Pos} {env : Env} : ∀ {es : List Expr}, Plain es → (backTo pos (starEach es env)).any (·.1) = false
  | [], _ => rfl
  | e :: es, h => by
    rw [star_ok (h e List.mem_cons_self)]
    show (false || (backTo pos (starEach es env)).any (·.1)) = false
    rw [plain_any fun x hx => h x (List.mem_cons_of_mem _ hx)]
    rfl
theorem plain_all {pos : Pos} {env : Env} : ∀ {es : List Expr}, Plain es → (backTo pos (starEach es env)).all (fun x => !x.1) = true
  | [], _ => rfl
  | e :: es, h => by
    rw [star_ok (h e List.mem_cons_self)]
    show (true && (backTo pos (starEach es env)).all (fun x => !x.1)) = true
    rw [plain_all fun x hx => h x (List.mem_cons_of_mem _ hx)]
    rfl
theorem cEs_plain : ∀ {n : Nat} {es : List Expr} {i : Es}, cEs n cc es = some i → Plain es
  | 0, _, _, h => by simp [cEs] at h
  | n + 1, [], _, _ => fun _ hx => nomatch hx
  | n + 1, e :: es, i, h => by
    cases hn : notStar e with
    | false => simp [cEs, hn] at h
    | true =>
      cases h1 : cE n cc e with
      | none => simp [cEs, hn, h1] at h
      | some e' =>
        cases h2 : cEs n cc es with
        | none => simp [cEs, hn, h1, h2] at h
        | some es' =>
          intro x hx
          rcases List.mem_cons.mp hx with rfl | hx
          · exact hn
          · exact cEs_plain h2 x hx
theorem eps_st {H1 : Hp} {M1 : Mp} {Q : List D → Mp → Prop} {u : List Value} {s' : Shared} (st : Stp H M H1 M1) (h : EPs3 (ct X ca) X M0 pins σ3 σ H1 M1 Q u s') : EPs3 (ct X ca) X M0 pins σ3 σ H M Q u s' := by
  obtain ⟨d, M', v, H', I, r, rd, st', q⟩ := h
  exact ⟨d, M', v, H', I, r, rd, st.trans st', q⟩
/-- f(..), a def of the module -/
theorem s_call {f : Str} {p pos : Pos} {i : Nat} {e : Expr} {es : List Expr} {ies : Es} (ok : Ok3 ca X P cc) (hf : cc.glob f = some (.fn i)) (hp : Plain (e :: es)) (ha : SndEs ca X M0 P X3 (e :: es) ies) : SndE ca X M0 P X3 (.Call (.Name f p) (e :: es) [] pos) (.call i ies) := by
  intro pins s σ H σ3 M Q I hw
  obtain ⟨hg, hl, hd, _⟩ := glob_ok ok hf
  obtain ⟨k, a, fd, ps, hm, hk, hb, hr, F⟩ := ok.g.fn f i hl
  refine wpAny_Call_Name_kw (ld_glob I.inv hg hm ?_ hd)
  refine PySem.W.callWith_K (h₀ := X.base) I.inv.ok.mod.kin hk (thn (ha pos pins s σ H σ3 M _ I hw) fun us s1 ⟨ds, M1, vs, H1, I1, r, rd, st, q⟩ => ⟨I1.inv.kIn, ?_⟩) (star_ok (hp e List.mem_cons_self)) (plain_any fun x hx => hp x (List.mem_cons_of_mem _ hx))
  exact thn (run_fng F hr ok.hg hb I1 r rd q) fun _ _ e => ep_st st e
theorem s_call0 {f : Str} {p pos : Pos} {i : Nat} (ok : Ok3 ca X P cc) (hf : cc.glob f = some (.fn i)) : SndE ca X M0 P X3 (.Call (.Name f p) [] [] pos) (.call i .nil) := by
  intro pins s σ H σ3 M Q I hw
  obtain ⟨hg, hl, hd, _⟩ := glob_ok ok hf
  obtain ⟨k, a, fd, ps, hm, hk, hb, hr, F⟩ := ok.g.fn f i hl
  refine wpAny_Call_Name_kw (ld_glob I.inv hg hm ?_ hd)
  exact PySem.W.callWith_K0 I.inv.kIn hk (run_fng (us := []) (vs := []) (ds := []) F hr ok.hg hb I .nil (show RDs (ct X ca) H [] [] from rfl) hw)
/-- a built-in called by its name -/
theorem s_bltF {f : Str} {id : String} {p pos : Pos} {b : Blt} {e : Expr} {es : List Expr} {ies : Es} (ok : Ok3 ca X P cc) (hf : cc.glob f = some .blt) (hv : bootBuiltins f = some (.builtin id)) (hF : Fn3 ca X (.builtin id) (wpBlt b)) (hp : Plain (e :: es)) (ha : SndEs ca X M0 P X3 (e :: es) ies) :
    SndE ca X M0 P X3 (.Call (.Name f p) (e :: es) [] pos) (.blt b ies) := by
  intro pins s σ H σ3 M Q I hw
  obtain ⟨hg, hl, hd, hn⟩ := glob_ok ok hf
  refine wpAny_Call_Name_kw (ld_blt I.inv hg (ok.g.blt f hl) hv ?_ hn hd)
  refine callWith_builtin1 (thn (ha pos pins s σ H σ3 M _ I hw) fun us s1 ⟨ds, M1, vs, H1, I1, r, rd, st, q⟩ => ?_) (star_ok (hp e List.mem_cons_self)) (plain_any fun x hx => hp x (List.mem_cons_of_mem _ hx))
  exact thn (hF pins s1 σ H1 M0 M1 σ3 ds vs us Q I1 r rd q) fun _ _ e => ep_st st e
theorem s_bltT {f : Str} {T : String} {p pos : Pos} {b : Blt} {e : Expr} {es : List Expr} {ies : Es} (ok : Ok3 ca X P cc) (hf : cc.glob f = some .blt) (hv : bootBuiltins f = some (.type T)) (hF : Fn3 ca X (.type T) (wpBlt b)) (hp : Plain (e :: es)) (ha : SndEs ca X M0 P X3 (e :: es) ies) :
    SndE ca X M0 P X3 (.Call (.Name f p) (e :: es) [] pos) (.blt b ies) := by
  intro pins s σ H σ3 M Q I hw
  obtain ⟨hg, hl, hd, hn⟩ := glob_ok ok hf
  refine wpAny_Call_Name_kw (ld_blt I.inv hg (ok.g.blt f hl) hv ?_ hn hd)
  refine callWith_type1 (thn (ha pos pins s σ H σ3 M _ I hw) fun us s1 ⟨ds, M1, vs, H1, I1, r, rd, st, q⟩ => ?_) (star_ok (hp e List.mem_cons_self)) (plain_any fun x hx => hp x (List.mem_cons_of_mem _ hx))
  exact thn (hF pins s1 σ H1 M0 M1 σ3 ds vs us Q I1 r rd q) fun _ _ e => ep_st st e
theorem ite_str {x y : Str} {α : Type} {a b : Option α} {c : α} (h : (if x == y then a else b) = some c) : (x = y ∧ a = some c) ∨ b = some c := by
  cases e : x == y with
  | true => rw [e] at h; exact .inl ⟨by simpa using e, h⟩
  | false => rw [e] at h; exact .inr h
theorem s_blt {f : Str} {p pos : Pos} {b : Blt} {e : Expr} {es : List Expr} {ies : Es} (ok : Ok3 ca X P cc) (hf : cc.glob f = some .blt) (hb : cBlt f = some b) (hp : Plain (e :: es)) (ha : SndEs ca X M0 P X3 (e :: es) ies) :
    SndE ca X M0 P X3 (.Call (.Name f p) (e :: es) [] pos) (.blt b ies) := by
  unfold cBlt at hb
  rcases ite_str hb with ⟨rfl, hb⟩ | hb
  · cases hb; exact s_bltF ok hf boot_len f_len hp ha
  rcases ite_str hb with ⟨rfl, hb⟩ | hb
  · cases hb; exact s_bltT ok hf (by decide +kernel) f_int hp ha
  rcases ite_str hb with ⟨rfl, hb⟩ | hb
  · cases hb; exact s_bltF ok hf boot_repr (f_repr ok.hg ok.hu ok.sy) hp ha
  rcases ite_str hb with ⟨rfl, hb⟩ | hb
  · cases hb; exact s_bltF ok hf boot_max (f_max ok.hc) hp ha
  rcases ite_str hb with ⟨rfl, hb⟩ | hb
  · cases hb; exact s_bltF ok hf (by decide +kernel) (f_min ok.hc) hp ha
  rcases ite_str hb with ⟨rfl, hb⟩ | hb
  · cases hb; exact s_bltF ok hf (by decide +kernel) f_abs hp ha
  rcases ite_str hb with ⟨rfl, hb⟩ | hb
  · cases hb; exact s_bltT ok hf (by decide +kernel) f_str hp ha
  · cases hb
/-! ### methods of built-in types -/
theorem noSuper_ok {o : Expr} {m : Str} {env : Env} (h : noSuper o = true) : attributeBase o m env (eval o env) = eval o env := by
  unfold attributeBase
  split
  · cases h
  · rfl
structure MthOk (ca : Nat → Addr) (X : Cx) (T id : String) (m : Str) (rk : RK) (mm : Mth) : Prop where
  pa : PlainAttrs T
  slot : Slot T m id
  ty : typeOf (.builtin id) = pure (.type "method_descriptor")
  rule : Mt3 ca X id (fun x ds M Q => rcv x M = some rk ∧ wpMth mm x ds M Q)
  is : ∀ (pins : List (Addr × Obj)) (s : Shared) (σ : L2.St) (H : Hp) (M0 M : Mp) (σ3 : Lo) (x : D) (a : V) (v : Value), I3 (ct X ca) X M0 pins σ3 M σ H s → RelV a v → RD (ct X ca) H x a → rcv x M = some rk → s.TypeIs v T ∧ ∀ b, v = .ref b → ∃ ob, s.heap.get? b = some ob ∧ ob.dict = none
theorem rcv_lst {x : D} {M : Mp} (h : rcv x M = some .lst) : ∃ a ds, x = .ref a ∧ M a = some (.lst ds) := by
  cases x with
  | ref a =>
    cases e : M a with
    | none => simp only [rcv, e] at h; cases h
    | some o => cases o with
      | lst ds => exact ⟨a, ds, rfl, e⟩
      | _ => simp only [rcv, e] at h; cases h
  | _ => cases h
theorem is_lst : ∀ (pins : List (Addr × Obj)) (s : Shared) (σ : L2.St) (H : Hp) (M0 M : Mp) (σ3 : Lo) (x : D) (a : V) (v : Value), I3 (ct X ca) X M0 pins σ3 M σ H s → RelV a v → RD (ct X ca) H x a → rcv x M = some .lst → s.TypeIs v "list" ∧ ∀ b, v = .ref b → ∃ ob, s.heap.get? b = some ob ∧ ob.dict = none := by
  intro pins s σ H M0 M σ3 x a v I rv rd h
  obtain ⟨p, ds, rfl, hm⟩ := rcv_lst h
  have e : a = .ref p := rd
  subst e
  obtain ⟨xs, hx, _⟩ := I.hp.lst hm
  exact tyV_is (T := "list") (x := .ref p) I.inv rv (.inl ⟨rfl, xs, SqL.of hx⟩)
theorem is_str : ∀ (pins : List (Addr × Obj)) (s : Shared) (σ : L2.St) (H : Hp) (M0 M : Mp) (σ3 : Lo) (x : D) (a : V) (v : Value), I3 (ct X ca) X M0 pins σ3 M σ H s → RelV a v → RD (ct X ca) H x a → rcv x M = some .str → s.TypeIs v "str" ∧ ∀ b, v = .ref b → ∃ ob, s.heap.get? b = some ob ∧ ob.dict = none := by
  intro pins s σ H M0 M σ3 x a v I rv rd h
  cases x with
  | str z =>
    have e : a = .str z := rd
    subst e
    obtain ⟨t, rfl⟩ := rv
    exact ⟨typeIs_str _ _ _, fun b e => nomatch e⟩
  | ref p =>
    cases e : M p with
    | none => simp only [rcv, e] at h; cases h
    | some o => cases o <;> (simp only [rcv, e] at h; cases h)
  | _ => cases h
theorem mok_append : MthOk ca X "list" "list.append" "append" .lst .append := ⟨PySem.F.plainAttrs_list, PySem.F.slot_list_append, PySem.F.type_list_append, m_append, is_lst⟩
theorem mok_extend : MthOk ca X "list" "list.extend" "extend" .lst .extend := ⟨PySem.F.plainAttrs_list, PySem.F.slot_list_extend, PySem.F.type_list_extend, m_extend, is_lst⟩
theorem mok_strIndex : MthOk ca X "str" "str.index" "index" .str .index := ⟨PySem.F.plainAttrs_str, PySem.F.slot_str_index, PySem.F.type_str_index, m_strIndex, is_str⟩
theorem mok_ok {m : Str} {mm : Mth} {r : Option RK} (hm : cMth m = some mm) (h : mok r mm = true) : ∃ rk T id, r = some rk ∧ MthOk ca X T id m rk mm := by
  unfold cMth at hm
  rcases ite_str hm with ⟨rfl, hm⟩ | hm
  · cases hm
    match r, h with
    | some .lst, _ => exact ⟨.lst, _, _, rfl, mok_append⟩
  rcases ite_str hm with ⟨rfl, hm⟩ | hm
  · cases hm
    match r, h with
    | some .lst, _ => exact ⟨.lst, _, _, rfl, mok_extend⟩
  rcases ite_str hm with ⟨rfl, hm⟩ | hm
  · cases hm
    cases r with
    | none => cases h
    | some r => cases r <;> cases h
  rcases ite_str hm with ⟨rfl, hm⟩ | hm
  · cases hm
    match r, h with
    | some .str, _ => exact ⟨.str, _, _, rfl, mok_strIndex⟩
  rcases ite_str hm with ⟨rfl, hm⟩ | hm
  · cases hm
    cases r with
    | none => cases h
    | some r => cases r <;> cases h
  rcases ite_str hm with ⟨rfl, hm⟩ | hm
  · cases hm
    cases r with
    | none => cases h
    | some r => cases r <;> cases h
  rcases ite_str hm with ⟨rfl, hm⟩ | hm
  · cases hm
    cases r with
    | none => cases h
    | some r => cases r <;> cases h
  cases hm
theorem s_mth {m : Str} {mm : Mth} {o : Expr} {ap pos : Pos} {es : List Expr} {io : E} {ies : Es} (hm : cMth m = some mm) (hn : noSuper o = true) (hl : (ap.endLine == pos.line) = true) (hz : es.length < 25) (hp : Plain es) (he : es = [] → ies = .nil) (ho : SndE ca X M0 P X3 o io) (ha : SndEs ca X M0 P X3 es ies) :
    SndE ca X M0 P X3 (.Call (.Attribute o m ap) es [] pos) (.mth io mm ies) := by
  intro pins s σ H σ3 M Q I hw
  have few : ((backTo pos (starEach es X.env)).all (fun x => !x.1) && (backToKw pos (keywordEach [] X.env)).all (fun x => x.1.isSome) && decide (es.length + ([] : List Keyword).length + (if ([] : List Keyword).isEmpty then 0 else 1) < 30)) = true := by
    rw [plain_all hp]
    show (true && true && decide (es.length + 0 + 0 < 30)) = true
    simp only [Bool.and_true, Bool.true_and, decide_eq_true_eq]
    omega
  refine wpAny_Call_method_late (noSuper_ok hn) few hl rfl (thn (ho pins s σ H σ3 M _ I hw) fun v s1 ⟨x, M1, av, H1, I1, rv, rd, st, hk, hw1⟩ => ?_)
  obtain ⟨rk, T, id, hr, W⟩ := mok_ok (ca := ca) (X := X) hm hk
  obtain ⟨h1, h2⟩ := W.is pins s1 σ H1 M0 M1 σ3 x av v I1 rv rd hr
  refine ⟨T, id, W.pa, W.slot, W.ty, h1, h2, ?_⟩
  have fin : ∀ (us : List Value) (s2 : Shared), EPs3 (ct X ca) X M0 pins σ3 σ H1 M1 (fun ds M2 => rcv x M2 = rcv x M1 ∧ wpMth mm x ds M2 Q) us s2 → wpAny (model X.prog X.w) X.A (call (.builtin id) (v :: us)) (EP3 (ct X ca) X M0 pins σ3 σ H M Q) X.xe s2 := fun us s2 ⟨ds, M2, vs, H2, I2, r2, rd2, st2, hk2, q⟩ =>
    thn (W.rule pins s2 σ H2 M0 M2 σ3 x av v ds vs us Q I2 rv (rd.keep (st2.tupK I1.hp)) r2 rd2 ⟨hk2.trans hr, q⟩) fun _ _ e => ep_st (st.trans st2) e
  cases es with
  | nil =>
    rw [he rfl] at hw1
    exact Calls.callWith_builtin rfl (PySem.evalArgs_none (fin [] s1 ⟨[], M1, [], H1, I1, .nil, rfl, Stp.refl, hw1⟩))
  | cons e es =>
    have hA := ha pos pins s1 σ H1 σ3 M1 _ I1 hw1
    rw [star_ok (hp e List.mem_cons_self)] at hA ⊢
    refine Calls.callWith_builtin (by show (false || (backTo pos (starEach es X.env)).any (·.1)) = false; rw [plain_any fun x hx => hp x (List.mem_cons_of_mem _ hx)]; rfl) (Calls.evalArgs_plain ?_)
    exact thn hA fun us s2 h => fin us s2 h
/-! ### classes -/
theorem lookupP {C : Ct} {fs : List (Str × D)} {gs : List (Str × V)} (p : Paired (fun (p : Str × D) (q : Str × V) => p.1 = q.1 ∧ RD C H p.2 q.2) fs gs) (f : Str) : (∀ d, fs.lookup f = some d → ∃ v, gs.lookup f = some v ∧ RD C H d v) ∧ (fs.lookup f = none → gs.lookup f = none) := by
  induction p with
  | nil => exact ⟨(fun d e => nomatch e), fun _ => rfl⟩
  | @cons a b l1 l2 r t ih =>
    obtain ⟨a1, a2⟩ := a
    obtain ⟨b1, b2⟩ := b
    obtain ⟨r1, r2⟩ := r
    have r1' : a1 = b1 := r1
    subst r1'
    simp only [List.lookup_cons]
    cases e : f == a1 with
    | true => exact ⟨fun d h => by cases h; exact ⟨b2, rfl, r2⟩, fun h => nomatch h⟩
    | false => exact ih
theorem putP {C : Ct} {f : Str} {d : D} {v : V} (rd : RD C H d v) : ∀ {fs : List (Str × D)} {gs : List (Str × V)}, Paired (fun (p : Str × D) (q : Str × V) => p.1 = q.1 ∧ RD C H p.2 q.2) fs gs → Paired (fun (p : Str × D) (q : Str × V) => p.1 = q.1 ∧ RD C H p.2 q.2) (putFd f d fs) (putF f v gs)
  | _, _, .nil => .cons ⟨rfl, rd⟩ .nil
  | _, _, .cons (a := (a1, a2)) (b := (b1, b2)) r t => by
    have r1 : a1 = b1 := r.1
    subst r1
    unfold putFd putF
    by_cases h : a1 = f
    · rw [if_pos h, if_pos h]
      exact .cons ⟨rfl, rd⟩ t
    · rw [if_neg h, if_neg h]
      exact .cons r (putP rd t)
theorem o_fld (ok : Ok3 ca X P cc) {x : D} {a : V} {v : Value} {f : Str} {b : Bool} {Q : Post} (I : I3 (ct X ca) X M0 pins σ3 M σ H s) (ra : RelV a v) (hx : RD (ct X ca) H x a) (h : wpFld P x f M Q) : wpAny (model X.prog X.w) X.A (getAttr v f b) (EP3 (ct X ca) X M0 pins σ3 σ H M Q) X.xe s := by
  cases x with
  | ref p =>
    have e : a = .ref p := hx; subst e
    cases ra
    cases g : M p with
    | none => simp only [wpFld, g] at h
    | some o =>
      cases o with
      | ins c fs =>
        simp only [wpFld, g] at h
        obtain ⟨hf, d, hd, q⟩ := h
        obtain ⟨dx, gs, hH, pd⟩ := I.hp.ins g
        obtain ⟨w, hw, rw'⟩ := (lookupP pd f).1 d hd
        obtain ⟨c1, c2⟩ := ok.g.fl c f hf
        exact getattr_ok I.inv hH c1 c2 hw fun u s' J ru => ep_now I J ru rw' q
      | _ => simp only [wpFld, g] at h
  | exn c ds => exact (show False from hx).elim
  | _ => exact h.elim
theorem s_fld {o : Expr} {f : Str} {pos : Pos} {io : E} (ok : Ok3 ca X P cc) (hn : noSuper o = true) (ho : SndE ca X M0 P X3 o io) : SndE ca X M0 P X3 (.Attribute o f pos) (.fld io f) := by
  intro pins s σ H σ3 M Q I hw
  refine attr_of (noSuper_ok hn) (thn (ho pins s σ H σ3 M _ I hw) fun v s1 ⟨x, M1, av, H1, I1, rv, rd, st, q⟩ => ?_)
  exact thn (o_fld ok I1 rv rd q) fun _ _ e => ep_st st e
theorem o_setFld (ok : Ok3 ca X P cc) {x y : D} {a b : V} {v u : Value} {f : Str} {k : Mp → Prop} (I : I3 (ct X ca) X M0 pins σ3 M σ H s) (ra : RelV a v) (rb : RelV b u) (hx : RD (ct X ca) H x a) (hy : RD (ct X ca) H y b) (h : wpSetFld P x f y M k) :
    wpAny (model X.prog X.w) X.A (setAttr v f u) (fun _ s' => ∃ M' H', I3 (ct X ca) X M0 pins σ3 M' σ H' s' ∧ TupK H H' ∧ k M') X.xe s := by
  cases x with
  | ref p =>
    have e : a = .ref p := hx; subst e
    cases ra
    cases g : M p with
    | none => simp only [wpSetFld, g] at h
    | some o =>
      cases o with
      | ins c fs =>
        simp only [wpSetFld, g] at h
        obtain ⟨⟨hf, hl⟩, q⟩ := h
        obtain ⟨dx, gs, hH, pd⟩ := I.hp.ins g
        obtain ⟨c1, c2⟩ := ok.g.fl c f hf
        have hl2 : gs.length < 1000 := by have := Paired.length pd; omega
        refine setattr_ok I.inv hH c1 c2 hl2 rb fun s' J => ⟨_, _, I.to J (I.hp.write (m' := .ins c (putFd f y fs)) g ⟨rfl, ?_⟩) (write_stp I.hp g), I.hp.tupKw g, q⟩
        have kk : TupK H (upd H p (.ins (ca c) dx (putF f b gs))) := I.hp.tupKw g
        exact Paired.mapP (putP hy pd) fun _ _ z => ⟨z.1, z.2.keep kk⟩
      | _ => simp only [wpSetFld, g] at h
  | _ => exact h.elim
theorem make_guards {A : Around} {C : Addr} {us : List Value} {kw : List (Str × Value)} : (A.under (.builtin "type.__call__" ⟨.ref C :: us, kw⟩)).guards = A.guards := by
  first | rfl | simp [Around.under, Code.weight, Code.isCreation, Code.isGuard, Code.isCaller, Code.frames, Code.isFrame, guardIds]
theorem run_mk {k : Nat} {f : Addr} {c : Nat} {fd : FuncData} {ps : List Str} {sp : Spec} {us : List Value} {vs : List V} {ds : List D} {Q : Post} (K : Mk X.K (ca c) f) (F : FnG (ct X ca) X.mg X.base k f fd ps sp) (hr : Room (k + 1) X.A) (hg : X.A.guards = some []) (hb : Binds X.K fd ps [])
    (I : I3 (ct X ca) X M0 pins σ3 M σ H s) (r : Vals vs us) (rd : RDs (ct X ca) H ds vs) (h : ∀ p, M p = none → sp (.ref p :: ds) (mset M p (.ins c [])) (fun d M2 => d = .non ∧ Q (.ref p) M2) X3) :
    wpAny (model X.prog X.w) X.A (call (.ref (ca c)) us) (EP3 (ct X ca) X M0 pins σ3 σ H M Q) X.xe s := by
  have n1 : H (s.heap.objs.size) = none := I.inv.hok.fresh (Nat.le_refl _)
  have n2 : H (s.heap.objs.size + 1) = none := I.inv.hok.fresh (Nat.le_succ _)
  have ne : s.heap.objs.size + 1 ≠ s.heap.objs.size := Nat.succ_ne_self _
  have hq := h (s.heap.objs.size + 1) (I.hp.free n2)
  have J := Inv.made (C := ca c) I.inv
  have n3 : (upd H s.heap.objs.size (.own (s.heap.objs.size + 1))) (s.heap.objs.size + 1) = none := by rw [upd_ne ne]; exact n2
  have rm : RM (ct X ca) (upd (upd H s.heap.objs.size (.own (s.heap.objs.size + 1))) (s.heap.objs.size + 1) (.ins (ca c) s.heap.objs.size [])) (mset M (s.heap.objs.size + 1) (.ins c [])) :=
    RM.new (I.hp.new0 n1) n3 ⟨rfl, .nil⟩
  have st : Stp H M (upd (upd H s.heap.objs.size (.own (s.heap.objs.size + 1))) (s.heap.objs.size + 1) (.ins (ca c) s.heap.objs.size [])) (mset M (s.heap.objs.size + 1) (.ins c [])) := (upd_stp n1).trans (mset_stp n3)
  have I2 := I.to J rm st
  have r2 : Vals (V.ref (s.heap.objs.size + 1) :: vs) (Value.ref (s.heap.objs.size + 1) :: us) := .cons rfl r
  have rd2 : RDs (ct X ca) (upd (upd H s.heap.objs.size (.own (s.heap.objs.size + 1))) (s.heap.objs.size + 1) (.ins (ca c) s.heap.objs.size [])) (.ref (s.heap.objs.size + 1) :: ds) (V.ref (s.heap.objs.size + 1) :: vs) := ⟨_, _, rfl, rfl, rd.keep (st.tupK I.hp)⟩
  have hl : (Value.ref (s.heap.objs.size + 1) :: us).length = ps.length := by rw [← r2.length, ← rd2.length]; exact F.len _ _ _ _ hq
  have b := hb _ (Value.ref (s.heap.objs.size + 1) :: us) J.kIn (by rw [List.append_nil]; exact hl)
  rw [List.append_nil] at b
  refine wpAny_call (make_map (f := f) I.inv.kIn K.makes K.init (beq_iff_eq.mp K.fn) (codeAny_mono (F.run _ X.stack _ _ ⟨Value.ref (s.heap.objs.size + 1) :: us, []⟩ (Value.ref (s.heap.objs.size + 1) :: us) _ _ _ _ X3 (hr.make (ca c) us []) (by rw [make_guards]; exact hg)
    (J.env0.make (ca c) us []) b r2 rd2 rm hq) fun res s' hres => ?_))
  match res, hres with
  | .ok (.ret u), hres =>
    obtain ⟨v, H', J2, rv, d, M', rm', st', rdv, ed, q⟩ := J.after hres
    subst ed
    have ev : v = .non := rdv
    subst ev
    exact ⟨rv, .ref (s.heap.objs.size + 1), M', .ref (s.heap.objs.size + 1), H', I2.to J2 rm' st', rfl, rfl, st.trans st', q⟩
theorem s_make {x : Str} {p pos : Pos} {c i : Nat} {e : Expr} {es : List Expr} {ies : Es} (ok : Ok3 ca X P cc) (hf : cc.glob x = some (.cls c i)) (hp : Plain (e :: es)) (ha : SndEs ca X M0 P X3 (e :: es) ies) : SndE ca X M0 P X3 (.Call (.Name x p) (e :: es) [] pos) (.make c i ies) := by
  intro pins s σ H σ3 M Q I hw
  obtain ⟨hg, hl, hd, _⟩ := glob_ok ok hf
  obtain ⟨k, f, fd, ps, hm, K, hb, hr, F⟩ := ok.g.cls x c i hl
  refine wpAny_Call_Name_kw (ld_glob I.inv hg hm ?_ hd)
  refine PySem.W.callWith_K (h₀ := X.base) I.inv.ok.mod.kin K.kp (thn (ha pos pins s σ H σ3 M _ I hw) fun us s1 ⟨ds, M1, vs, H1, I1, r, rd, st, q⟩ => ⟨I1.inv.kIn, ?_⟩) (star_ok (hp e List.mem_cons_self)) (plain_any fun x hx => hp x (List.mem_cons_of_mem _ hx))
  exact thn (run_mk K F hr ok.hg hb I1 r rd q) fun _ _ e => ep_st st e
theorem s_make0 {x : Str} {p pos : Pos} {c i : Nat} (ok : Ok3 ca X P cc) (hf : cc.glob x = some (.cls c i)) : SndE ca X M0 P X3 (.Call (.Name x p) [] [] pos) (.make c i .nil) := by
  intro pins s σ H σ3 M Q I hw
  obtain ⟨hg, hl, hd, _⟩ := glob_ok ok hf
  obtain ⟨k, f, fd, ps, hm, K, hb, hr, F⟩ := ok.g.cls x c i hl
  refine wpAny_Call_Name_kw (ld_glob I.inv hg hm ?_ hd)
  exact PySem.W.callWith_K0 I.inv.kIn K.kp (run_mk (us := []) (vs := []) (ds := []) K F hr ok.hg hb I .nil (show RDs (ct X ca) H [] [] from rfl) hw)
theorem s_umth {m : Str} {o : Expr} {ap pos : Pos} {es : List Expr} {io : E} {ies : Es} {c i : Nat} (ok : Ok3 ca X P cc) (hm : cc.gl.lookup (dotted m) = some (.mth c i)) (hn : noSuper o = true) (hl : (ap.endLine == pos.line) = true) (hz : es.length < 25) (hp : Plain es) (he : es = [] → ies = .nil)
    (ho : SndE ca X M0 P X3 o io) (ha : SndEs ca X M0 P X3 es ies) : SndE ca X M0 P X3 (.Call (.Attribute o m ap) es [] pos) (.umth io m c i ies) := by
  intro pins s σ H σ3 M Q I hw
  obtain ⟨k, f, fd, ps, c1, c2, hb, hr, F⟩ := ok.g.mth m c i hm
  have few : methodCallForm (es.length + ([] : List Keyword).length) (backTo pos (starEach es X.env)) (backToKw pos (keywordEach [] X.env)) = true := by
    unfold methodCallForm
    rw [plain_all hp]
    show (true && true && decide (es.length + 0 + 0 < 30)) = true
    simp only [Bool.and_true, Bool.true_and, decide_eq_true_eq]
    omega
  have ht : eval (.Call (.Attribute o m ap) es [] pos) X.env = (do
      let ov ← eval o X.env
      standAt ap.atName
      let (f, first) ← holding [ov] (getMethod ov m (plainOf o X.env))
      callWith pos f first (backTo pos (starEach es X.env)) (backToKw pos (keywordEach [] X.env))) := by
    rw [arm_eval_Call, noSuper_ok hn]
    congr 1
    funext ov
    congr 1
    funext _
    exact mcall_line few hl
  refine PySem.W.methodCall_KW (pl := plainOf o X.env) (thn (ho pins s σ H σ3 M _ I hw) fun v s1 ⟨x, M1, av, H1, I1, rv, rd, st, ⟨a, fs, ex, hM, hno⟩, hw1⟩ => ?_) ht
  subst ex
  have ea : av = .ref a := rd
  subst ea
  cases rv
  obtain ⟨dx, gs, hH, pd⟩ := I1.hp.ins hM
  refine getmeth_ok I1.inv hH c1 c2 ((lookupP pd m).2 hno) ?_
  cases es with
  | nil =>
    rw [he rfl] at hw1
    exact PySem.W.callWith_K0 (first := [.ref a]) I1.inv.kIn c2.kp (thn (run_fng (us := [.ref a]) (vs := [.ref a]) (ds := [.ref a]) F hr ok.hg hb I1 (.cons rfl .nil) ⟨_, _, rfl, rfl, rfl⟩ hw1) fun _ _ e => ep_st st e)
  | cons e es =>
    refine PySem.W.callWith_K (first := [.ref a]) (h₀ := X.base) I1.inv.ok.mod.kin c2.kp (thn (ha pos pins s1 σ H1 σ3 M1 _ I1 hw1) fun us s2 ⟨ds, M2, vs, H2, I2, r2, rd2, st2, q2⟩ => ⟨I2.inv.kIn, ?_⟩) (star_ok (hp e List.mem_cons_self)) (plain_any fun x hx => hp x (List.mem_cons_of_mem _ hx))
    exact thn (run_fng (us := .ref a :: us) (vs := .ref a :: vs) (ds := .ref a :: ds) F hr ok.hg hb I2 (.cons rfl r2) ⟨_, _, rfl, rfl, rd2⟩ q2) fun _ _ e => ep_st (st.trans st2) e
theorem s_dnew {pos : Pos} : SndE ca X M0 P X3 (.Dict [] [] pos) (.dct .nil) := by
  intro pins s σ H σ3 M Q I hw
  exact thn (pe_dnewK.run pins s σ H (QV (ct X ca) H M Q) I.inv fun p hp => qv_new I.hp hp (m := .dct []) ⟨[], rfl, .nil⟩ hw.2) fun _ _ e => ep_of I e
theorem s_cidx {x : Str} {ap p pos : Pos} {ds : List D} {e : Expr} {ies : Es} (ok : Ok3 ca X P cc) (hf : cc.glob x = some (.con (.tup ds))) (hl : (ap.endLine == pos.line) = true) (hp : Plain [e]) (ha : SndEs ca X M0 P X3 [e] ies) :
    SndE ca X M0 P X3 (.Call (.Attribute (.Name x p) "index" ap) [e] [] pos) (.cidx ds ies) := by
  intro pins s σ H σ3 M Q I hw
  obtain ⟨hg, hlk, hd, _⟩ := glob_ok ok hf
  obtain ⟨u, v, hm, rv, rd, tp⟩ := ok.g.con x _ hlk
  obtain ⟨a, o, rfl, hk, hc, hdn⟩ := tp ds rfl
  cases rv
  have few : ((backTo pos (starEach [e] X.env)).all (fun x => !x.1) && (backToKw pos (keywordEach [] X.env)).all (fun x => x.1.isSome) && decide (([e] : List Expr).length + ([] : List Keyword).length + (if ([] : List Keyword).isEmpty then 0 else 1) < 30)) = true := by
    rw [plain_all hp]
    rfl
  refine wpAny_Call_method_late (noSuper_ok rfl) few hl rfl (ld_glob I.inv hg hm ?_ hd)
  obtain ⟨h1, h2⟩ := tyV_is (T := "tuple") (x := .ref a) I.inv rfl (.inr (.inl ⟨rfl, o, hk, hc, hdn⟩))
  refine ⟨"tuple", "tuple.index", PySem.F.plainAttrs_tuple, PySem.F.slot_tuple_index, PySem.F.type_tuple_index, h1, h2, ?_⟩
  have hA := ha pos pins s σ H σ3 M _ I hw
  rw [star_ok (hp e List.mem_cons_self)] at hA ⊢
  refine Calls.callWith_builtin rfl (Calls.evalArgs_plain ?_)
  refine thn hA fun us s1 ⟨ds2, M1, vs, H1, I1, r, rd1, st, ys, z, j, e1, e2, h3, h4, q⟩ => ?_
  subst e1 e2
  exact thn (m_tupIndex pins s1 σ H1 M0 M1 σ3 (.tup (ys.map .str)) (.ref a) (.ref a) [.str z] vs us Q I1 rfl (rd H1) r rd1 ⟨rfl, ys, z, j, rfl, rfl, h3, h4, q⟩) fun _ _ e => ep_st st e
end
end L3
end
section
set_option autoImplicit false
set_option linter.all false
set_option maxRecDepth 100000
/-! L3: what is walked, and the for loop -/
namespace L3
open PySem L2 PyProof.Rows

/-- .. whatever is wanted of exceptions ahead -/
def SndEx (ca : Nat → Addr) (X : Cx) (M0 : Mp) (P : Pr) (e : Expr) (i : E) : Prop := ∀ X3 : Xp, SndE ca X M0 P X3 e i
def SndTx (ca : Nat → Addr) (X : Cx) (M0 : Mp) (P : Pr) (e : Expr) (i : T) : Prop := ∀ X3 : Xp, SndT ca X M0 P X3 e i
def SndEsx (ca : Nat → Addr) (X : Cx) (M0 : Mp) (P : Pr) (e : List Expr) (i : Es) : Prop := ∀ X3 : Xp, SndEs ca X M0 P X3 e i
/-- the walk J yields the values ds one by one, while G holds of the heap; H0: the heap at its start -/
def ItRel (C : Ct) (J : It) (ds : List D) (G : Mp → Prop) (H0 : Hp) : Prop :=
  ∀ (H : Hp) (M : Mp), TupK H0 H → RM C H M → G M → (∀ i d, ds[i]? = some d → J.go i H ∧ ∀ x H', J.yld i H x H' → RM C H' M ∧ Stp H M H' M ∧ RD C H' d x) ∧ J.stop ds.length H
/-- a new object of M is nothing to what is undone -/
def FinN (fin : Mp → Mp) : Prop := ∀ (M : Mp) (b : Addr) (m : MO), M b = none → m.free → fin (mset M b m) = mset (fin M) b m ∧ fin M b = none
/-- what is undone behind the walk; Hs: the heap ahead of it -/
def FinOk (ca : Nat → Addr) (X : Cx) (fin : Mp → Mp) (Hs : Hp) : Prop := FinN fin ∧
  ∀ (M0 : Mp) (pins : List (Addr × Obj)) (σ3 : Lo) (M : Mp) (σ : L2.St) (H : Hp) (s : Shared), I3 (ct X ca) X M0 pins σ3 M σ H s → TupK Hs H → ∃ H', I3 (ct X ca) X M0 pins σ3 (fin M) σ H' s ∧ TupK Hs H' ∧ TupK0 H H' ∧ ∀ b o, H b = some o → M b = none → H' b = some o ∧ fin M b = none
def It3 (ca : Nat → Addr) (X : Cx) (M0 : Mp) (tg : Expr) (pins : List (Addr × Obj)) (σ3 : Lo) (σ : L2.St) (H : Hp) (M : Mp) (R : ItR) (itv : Value) (s2 : Shared) : Prop :=
  ∃ (it : Addr) (fp : List Addr) (tn : Nat → Heap → Prop) (J : It) (H' : Hp) (M' : Mp) (ds : List D) (G : Mp → Prop) (fin : Mp → Mp), itv = .ref it ∧ I3 (ct X ca) X M0 pins σ3 M' σ H' s2 ∧ Turn X.prog X.w X.K tg J fp it tn ∧ tn 0 s2.heap ∧ (∀ b ∈ fp, FpOk X pins H' b) ∧
    Stp H M H' M' ∧ ItRel (ct X ca) J ds G H' ∧ FinOk ca X fin H ∧ R ds G M' fin
/-- what is walked comes -/
def SndI (ca : Nat → Addr) (X : Cx) (M0 : Mp) (P : Pr) (tg e : Expr) (k : ItK) (es : Es) : Prop :=
  ∀ (X3 : Xp) (pins : List (Addr × Obj)) (s : Shared) (σ : L2.St) (H : Hp) (σ3 : Lo) (M : Mp) (R : ItR), I3 (ct X ca) X M0 pins σ3 M σ H s → wpEs P X3 es σ3 M (fun ds M1 => wpIt k ds M1 R) →
    wpAny (model X.prog X.w) X.A (eval e X.env) (fun v s1 => wpAny (model X.prog X.w) X.A (pyIter v) (It3 ca X M0 tg pins σ3 σ H M R) X.xe s1) X.xe s

section
variable {ca : Nat → Addr} {X : Cx} {M0 M : Mp} {pins : List (Addr × Obj)} {σ3 : Lo} {σ : L2.St} {H : Hp} {s : Shared} {P : Pr} {cc : CC}
theorem finId {Hs : Hp} : FinOk ca X id Hs := ⟨fun M b m h _ => ⟨rfl, h⟩, fun M0 pins σ3 M σ H s I k => ⟨H, I, k, TupK.refl.weak, fun b o h n => ⟨h, n⟩⟩⟩
theorem finN_unlk {a : Addr} : FinN (unlk a) := fun M b m h hm => by
  by_cases hb : b = a
  · subst hb
    have e1 : unlk b M = M := by unfold unlk; rw [h]
    have e2 : unlk b (mset M b m) = mset M b m := by
      unfold unlk
      rw [mset_same]
      cases m with
      | lck kvs => exact hm.elim
      | _ => rfl
    rw [e1, e2]
    exact ⟨rfl, h⟩
  · have e0 : (mset M b m) a = M a := mset_ne (Ne.symm hb)
    have two : ∀ kvs, M a = some (.lck kvs) → unlk a (mset M b m) = mset (unlk a M) b m ∧ unlk a M b = none := fun kvs e => by
      have e1 : unlk a M = mset M a (.dct kvs) := by unfold unlk; rw [e]
      have e2 : unlk a (mset M b m) = mset (mset M b m) a (.dct kvs) := by unfold unlk; rw [e0, e]
      rw [e1, e2]
      refine ⟨?_, by rw [mset_ne hb]; exact h⟩
      funext c
      by_cases h1 : c = a
      · subst h1; rw [mset_same, mset_ne (Ne.symm hb), mset_same]
      · rw [mset_ne h1]
        by_cases h2 : c = b
        · subst h2; rw [mset_same, mset_same]
        · rw [mset_ne h2, mset_ne h2, mset_ne h1]
    have one : (∀ kvs, M a ≠ some (.lck kvs)) → unlk a (mset M b m) = mset (unlk a M) b m ∧ unlk a M b = none := fun z => by
      have e1 : unlk a M = M := by
        unfold unlk
        split
        · rename_i kvs q; exact absurd q (z kvs)
        · rfl
      have e2 : unlk a (mset M b m) = mset M b m := by
        unfold unlk
        rw [e0]
        split
        · rename_i kvs q; exact absurd q (z kvs)
        · rfl
      rw [e1, e2]
      exact ⟨rfl, h⟩
    cases e : M a with
    | none => exact one fun kvs z => by rw [e] at z; cases z
    | some o => cases o with
      | lck kvs => exact two kvs e
      | _ => exact one fun kvs z => by rw [e] at z; cases z
theorem unlock0 {a : Addr} {ob : Obj} {ks : List (Key × V)} (hH : H a = some (.frz ob (.dK ks))) : TupK0 H (upd H a (.dK ks)) := ⟨fun b xs h => by
  rcases h with h | ⟨o, h⟩
  · have ne : b ≠ a := by rintro rfl; rw [h] at hH; cases hH
    exact .inl (by rw [upd_ne ne]; exact h)
  · have ne : b ≠ a := by rintro rfl; rw [h] at hH; cases hH
    exact .inr ⟨o, by rw [upd_ne ne]; exact h⟩, fun b o xs h => by
  have ne : b ≠ a := by rintro rfl; rw [h] at hH; cases hH
  rw [upd_ne ne]; exact h⟩
theorem finUnlk {a : Addr} {Hs : Hp} (hn : ∀ o u, X.H_0 a ≠ some (.frz o u)) (hs : ∀ o u, Hs a ≠ some (.frz o u)) : FinOk ca X (unlk a) Hs := by
  refine ⟨finN_unlk, ?_⟩
  intro M0 pins σ3 M σ H s I k
  have same : (∀ kvs, M a ≠ some (.lck kvs)) → ∃ H', I3 (ct X ca) X M0 pins σ3 (unlk a M) σ H' s ∧ TupK Hs H' ∧ TupK0 H H' ∧ ∀ b o, H b = some o → M b = none → H' b = some o ∧ unlk a M b = none := fun z => by
    have e : unlk a M = M := by
      unfold unlk
      split
      · rename_i kvs h; exact absurd h (z kvs)
      · rfl
    rw [e]
    exact ⟨H, I, k, TupK.refl.weak, fun b o h n => ⟨h, n⟩⟩
  cases e : M a with
  | none => exact same fun kvs z => by rw [e] at z; cases z
  | some m => cases m with
    | lck kvs =>
      obtain ⟨ob, ks, hH, pd⟩ := I.hp.lck e
      have k0 := unlock0 hH
      have ek : unlk a M = mset M a (.dct kvs) := by unfold unlk; rw [e]
      rw [ek]
      refine ⟨upd H a (.dK ks), ⟨I.inv.unlock hH hn, I.lo.keep0 k0, fun b m hb => ?_, fun b o h1 h2 => ?_, fun b o u h1 => ?_⟩, ⟨fun b xs h => k0.1 b xs (k.1 b xs h), fun b o u h => ?_⟩, k0, fun b o h n => ?_⟩
      · by_cases h : b = a
        · subst h
          rw [mset_same] at hb
          cases hb
          exact ⟨_, upd_same, ks, rfl, Paired.mapP pd fun _ _ z => ⟨z.1, z.2.keep0 k0⟩⟩
        · rw [mset_ne h] at hb
          obtain ⟨u, hu, ro⟩ := I.hp b m hb
          exact ⟨u, by rw [upd_ne h]; exact hu, ro.keep0 k0⟩
      · obtain ⟨g1, g2⟩ := I.st.1 b o h1 h2
        have ne : b ≠ a := by rintro rfl; rw [e] at g2; cases g2
        exact ⟨by rw [upd_ne ne]; exact g1, by rw [mset_ne ne]; exact g2⟩
      · have ne : b ≠ a := by rintro rfl; exact hn _ _ h1
        rw [upd_ne ne]
        exact I.st.2 b o u h1
      · have ne : b ≠ a := by rintro rfl; exact hs _ _ h
        rw [upd_ne ne]
        exact k.2 b o u h
      · have ne : b ≠ a := by rintro rfl; rw [e] at n; cases n
        exact ⟨by rw [upd_ne ne]; exact h, by rw [mset_ne ne]; exact n⟩
    | _ => exact same fun kvs z => by rw [e] at z; cases z
/-! ### arguments, for the hand layer's rules -/
def AV (C : Ct) (H : Hp) (M : Mp) (Q : List D → Mp → Prop) : List V → Hp → Prop := fun vs H' => ∃ ds M', RM C H' M' ∧ Stp H M H' M' ∧ RDs C H' ds vs ∧ Q ds M'
def taOf (ca : Nat → Addr) (X : Cx) (M0 : Mp) (P : Pr) (X3 : Xp) (ies : Es) : TA := fun σ H Q => ∃ σ3 M Q3, (RL (ct X ca) H σ3 σ ∧ RM (ct X ca) H M ∧ Stp X.H_0 M0 H M) ∧ wpEs P X3 ies σ3 M Q3 ∧ ∀ vs H', AV (ct X ca) H M Q3 vs H' → Q vs H'
theorem pa_of {X3 : Xp} {es : List Expr} {ies : Es} (h : SndEs ca X M0 P X3 es ies) : PA X es (taOf ca X M0 P X3 ies) := by
  refine ⟨fun pos pins s σ H Q I ⟨σ3, M, Q3, ⟨h1, h2, h3⟩, hw, hq⟩ => ?_⟩
  exact thn (h pos pins s σ H σ3 M Q3 ⟨I, h1, h2, h3⟩ hw) fun us s1 ⟨ds, M1, vs, H1, I1, rv, rd, st, q⟩ => ⟨vs, H1, I1.inv, rv, hq vs H1 ⟨ds, M1, I1.hp, st, rd, q⟩⟩

/-! ### the kinds -/
theorem it_lst {a : Addr} {ds : List D} {H0 : Hp} : ItRel (ct X ca) (Itl X.K a) ds (fun M' => M' a = some (.lst ds)) H0 := by
  intro H M k r g
  obtain ⟨xs, hx, rs⟩ := r.lst g
  have hl := rs.length
  refine ⟨fun i d e => ?_, ⟨xs, SqL.of hx, by omega⟩⟩
  obtain ⟨x, e1, r1⟩ := rs.get e
  refine ⟨⟨xs, x, SqL.of hx, e1⟩, fun y H' ⟨e2, q⟩ => ?_⟩
  subst e2
  have e3 := q xs (SqL.of hx)
  rw [e1] at e3; cases e3
  exact ⟨r, Stp.refl, r1⟩
theorem it_kl {a : Addr} {xs : List V} {ds : List D} {H0 : Hp} (hq : SqF X.K H0 a xs) (rs : RDs (ct X ca) H0 ds xs) : ItRel (ct X ca) (Itl X.K a) ds (fun _ => True) H0 := by
  intro H M k r _
  have hq := k.weak.sqf hq
  have rs := rs.keep k
  have hl := rs.length
  refine ⟨fun i d e => ?_, ⟨xs, hq.sq, by omega⟩⟩
  obtain ⟨x, e1, r1⟩ := rs.get e
  refine ⟨⟨xs, x, hq.sq, e1⟩, fun y H' ⟨e2, q⟩ => ?_⟩
  subst e2
  have e3 := q xs hq.sq
  rw [e1] at e3; cases e3
  exact ⟨r, Stp.refl, r1⟩
theorem it_tup {a : Addr} {xs : List V} {ds : List D} {H0 : Hp} (hq : SqT X.K H0 a xs) (rs : RDs (ct X ca) H0 ds xs) : ItRel (ct X ca) (Itt X.K a) ds (fun _ => True) H0 := by
  intro H M k r _
  have hq := k.weak.sq hq
  have rs := rs.keep k
  have hl := rs.length
  refine ⟨fun i d e => ?_, ⟨xs, hq, by omega⟩⟩
  obtain ⟨x, e1, r1⟩ := rs.get e
  refine ⟨⟨xs, x, hq, e1⟩, fun y H' ⟨e2, q⟩ => ?_⟩
  subst e2
  have e3 := q xs hq
  rw [e1] at e3; cases e3
  exact ⟨r, Stp.refl, r1⟩
theorem it_str {x : Str} {H0 : Hp} : ItRel (ct X ca) (Its x) (x.cps.toList.map fun c => .str ⟨#[c]⟩) (fun _ => True) H0 := by
  intro H M k r _
  refine ⟨fun i d e => ?_, ?_⟩
  · rw [List.getElem?_map] at e
    cases g : x.cps.toList[i]? with
    | none => rw [g] at e; cases e
    | some c =>
      rw [g] at e
      cases e
      have g' : x.cps[i]? = some c := by simpa using g
      have hlt : i < x.cps.size := by
        obtain ⟨h, _⟩ := Array.getElem?_eq_some_iff.mp g'
        exact h
      refine ⟨hlt, fun y H' ⟨e2, c', e3, e4⟩ => ?_⟩
      subst e2
      rw [g'] at e3; cases e3
      exact ⟨r, Stp.refl, e4⟩
  · show x.cps.size ≤ _
    simp
theorem dRange_get {lo hi : Int} {i : Nat} {d : D} (h : (dRange lo hi)[i]? = some d) : i < (hi - lo).toNat ∧ d = .int (lo + (i : Int)) := by
  unfold dRange at h
  rw [List.getElem?_map] at h
  by_cases hi' : i < (hi - lo).toNat
  · rw [List.getElem?_range hi'] at h
    cases h
    exact ⟨hi', rfl⟩
  · rw [List.getElem?_eq_none (by simp; omega)] at h
    cases h
theorem dRange_length {lo hi : Int} : (dRange lo hi).length = (hi - lo).toNat := by simp [dRange]
theorem it_rng {lo hi : Int} {H0 : Hp} : ItRel (ct X ca) (Itr lo (hi - lo).toNat) (dRange lo hi) (fun _ => True) H0 := by
  intro H M k r _
  refine ⟨fun i d e => ?_, ?_⟩
  · obtain ⟨h1, rfl⟩ := dRange_get e
    refine ⟨h1, fun y H' ⟨e2, e3⟩ => ?_⟩
    subst e2
    exact ⟨r, Stp.refl, e3⟩
  · show _ ≤ _
    rw [dRange_length]
    exact Nat.le_refl _
theorem it_rev {a : Addr} {ds : List D} {n : Nat} {H0 : Hp} (hn : ds.length = n) : ItRel (ct X ca) (Itv X.K a n) ds.reverse (fun M' => M' a = some (.lst ds)) H0 := by
  intro H M k r g
  obtain ⟨xs, hx, rs⟩ := r.lst g
  have hl := rs.length
  refine ⟨fun i d e => ?_, ?_⟩
  · have hlt : i < ds.length := by
      have := (List.getElem?_eq_some_iff.mp e).1
      simpa using this
    rw [List.getElem?_reverse hlt, hn] at e
    obtain ⟨x, e1, r1⟩ := rs.get e
    refine ⟨⟨by omega, xs, x, SqL.of hx, e1⟩, fun y H' ⟨e2, q⟩ => ?_⟩
    subst e2
    have e3 := q xs (SqL.of hx)
    rw [e1] at e3; cases e3
    exact ⟨r, Stp.refl, r1⟩
  · show n ≤ _
    rw [List.length_reverse, hn]
    exact Nat.le_refl _
theorem one_it {tg : Expr} {R : ItR} {H1 : Hp} {M1 : Mp} {s1 : Shared} {h' : Heap} {tk : Nat} {it : Addr} {J : It} {tn : Nat → Heap → Prop} {ds : List D} {G : Mp → Prop} (I1 : I3 (ct X ca) X M0 pins σ3 M1 σ H1 s1)
    (hit : it = s1.heap.objs.size) (hk : ∀ b o, s1.heap.get? b = some o → h'.get? b = some o) (T : Turn X.prog X.w X.K tg J [it] it tn) (t0 : tn 0 h') {fin : Mp → Mp} (st : Stp H M H1 M1) (hr : ItRel (ct X ca) J ds G H1) (q : R ds G M1 fin) (hf : FinOk ca X fin H := by exact finId) :
    It3 ca X M0 tg pins σ3 σ H M R (.ref it) { s1 with heap := h', toks := tk } := by
  refine ⟨it, [it], tn, J, H1, M1, ds, G, fin, rfl, I1.same (I1.inv.kept (t' := tk) hk), T, t0, fun b hb => ?_, st, hr, hf, q⟩
  have e : b = s1.heap.objs.size := by rw [← hit]; simpa using hb
  subst e
  exact I1.inv.fpOk (Nat.le_refl _) (I1.inv.hok.fresh (Nat.le_refl _))
/-! ### dicts -/
theorem lock_at {a : Addr} {kvs : List (D × D)} {ks : List (Key × V)} (I : I3 (ct X ca) X M0 pins σ3 M σ H s) (g : M a = some (.dct kvs)) (hH : H a = some (.dK ks)) (pd : PD (ct X ca) H kvs ks) {od : Obj} (J : Inv X pins σ (upd H a (.frz od (.dK ks))) s) :
    I3 (ct X ca) X M0 pins σ3 (mset M a (.lck kvs)) σ (upd H a (.frz od (.dK ks))) s ∧ Stp H M (upd H a (.frz od (.dK ks))) (mset M a (.lck kvs)) := by
  have kw : TupK H (upd H a (.frz od (.dK ks))) := I.hp.tupKw g
  have st : Stp H M (upd H a (.frz od (.dK ks))) (mset M a (.lck kvs)) := write_stp I.hp g
  exact ⟨I.to J (I.hp.write (m' := .lck kvs) g ⟨ks, rfl, Paired.mapP pd fun _ _ z => ⟨z.1, z.2.keep kw⟩⟩) st, st⟩
theorem it_keys {a : Addr} {kvs : List (D × D)} {ks : List (Key × V)} {od : Obj} {G : Mp → Prop} {H0 : Hp} (h0 : H0 a = some (.frz od (.dK ks))) (pd : PD (ct X ca) H0 kvs ks) : ItRel (ct X ca) (Itk a od ks) (kvs.map (·.1)) G H0 := by
  intro H M k r _
  have h1 := k.2 a od _ h0
  have hl := pd.len
  refine ⟨fun i d e => ?_, ⟨h1, by rw [List.length_map]; omega⟩⟩
  rw [List.getElem?_map] at e
  cases q : kvs[i]? with
  | none => rw [q] at e; cases e
  | some p =>
    rw [q] at e
    cases e
    obtain ⟨⟨q1, q2⟩, h2, kr, rv⟩ := pd_get pd q
    refine ⟨⟨h1, (List.getElem?_eq_some_iff.mp h2).1⟩, fun x H' ⟨e1, kk, vv, h3, e2⟩ => ?_⟩
    subst e1 e2
    rw [h2] at h3
    cases h3
    exact ⟨r, Stp.refl, rd_key kr⟩
theorem it_items {a : Addr} {kvs : List (D × D)} {ks : List (Key × V)} {od : Obj} {G : Mp → Prop} {H0 : Hp} (h0 : H0 a = some (.frz od (.dK ks))) (pd : PD (ct X ca) H0 kvs ks) : ItRel (ct X ca) (Iti a od ks) (kvs.map fun p => .tup [p.1, p.2]) G H0 := by
  intro H M k r _
  have h1 := k.2 a od _ h0
  have hl := pd.len
  refine ⟨fun i d e => ?_, ⟨h1, by rw [List.length_map]; omega⟩⟩
  rw [List.getElem?_map] at e
  cases q : kvs[i]? with
  | none => rw [q] at e; cases e
  | some p =>
    rw [q] at e
    cases e
    obtain ⟨⟨q1, q2⟩, h2, kr, rv⟩ := pd_get pd q
    refine ⟨⟨h1, (List.getElem?_eq_some_iff.mp h2).1⟩, fun x H' ⟨T, kk, vv, h3, e1, e2, e3⟩ => ?_⟩
    subst e1 e3
    rw [h2] at h3
    cases h3
    exact ⟨r.new0 e2, upd_stp e2, T, [kV q1, q2], rfl, .inl (.inl upd_same), _, _, rfl, (rd_key kr), _, _, rfl, (rv.keep k).keep (tupK_new e2), rfl⟩
/-- from a value that has come -/
theorem iter_plain {tg : Expr} {R : ItR} {x : D} {v : V} {u : Value} {H1 : Hp} {M1 : Mp} {s1 : Shared} (I1 : I3 (ct X ca) X M0 pins σ3 M1 σ H1 s1) (rv : RelV v u) (rd : RD (ct X ca) H1 x v) (st : Stp H M H1 M1) (h : wpIt .plain [x] M1 R) :
    wpAny (model X.prog X.w) X.A (pyIter u) (It3 ca X M0 tg pins σ3 σ H M R) X.xe s1 := by
  cases x with
  | tup xs =>
    obtain ⟨a, ys, rfl, hq, rs⟩ := rd
    cases rv
    obtain ⟨its, rv, p, hz⟩ := I1.inv.tuple hq
    exact wpAny_pyIter_tuple (show s1.heap.IsTuple a its.toArray from p) (one_it (tk := s1.toks) I1 rfl (fun b o e => Heap.get?_push_of_some _ e) (turn_tuple a _) ⟨_, Heap.get?_push_size _ rfl, rfl, rfl⟩ st (it_tup hq rs) h)
  | kl xs =>
    obtain ⟨a, ys, rfl, hq, rs⟩ := rd
    cases rv
    obtain ⟨its, rv, p, hz⟩ := I1.inv.list hq.sq
    exact wpAny_pyIter_list p.isList (one_it (tk := s1.toks) I1 rfl (fun b o e => Heap.get?_push_of_some _ e) (turn_list a _) ⟨_, Heap.get?_push_size _ rfl, rfl, rfl⟩ st (it_kl hq rs) h)
  | str x =>
    have e : v = .str x := rd
    subst e
    obtain ⟨t, rfl⟩ := rv
    cases ha : x.cps.all (· < 128)
    · exact wpAny_pyIter_wide ha (one_it (tk := s1.toks) I1 rfl (fun b o e => Heap.get?_push_of_some _ e) (turn_str _ x t "str_iterator" (.inr rfl)) ⟨_, Heap.get?_push_size _ rfl, rfl, rfl⟩ st it_str h.2)
    · exact wpAny_pyIter_ascii ha (one_it (tk := s1.toks) I1 rfl (fun b o e => Heap.get?_push_of_some _ e) (turn_str _ x t "str_ascii_iterator" (.inl rfl)) ⟨_, Heap.get?_push_size _ rfl, rfl, rfl⟩ st it_str h.2)
  | ref a =>
    have e : v = .ref a := rd
    subst e
    cases rv
    cases g : M1 a with
    | none => simp only [wpIt, g] at h
    | some o =>
      cases o with
      | lst ds =>
        simp only [wpIt, g] at h
        obtain ⟨xs, hx, rs⟩ := I1.hp.lst g
        obtain ⟨its, rv, p, hz⟩ := I1.inv.list (SqL.of hx)
        exact wpAny_pyIter_list p.isList (one_it (tk := s1.toks) I1 rfl (fun b o e => Heap.get?_push_of_some _ e) (turn_list a _) ⟨_, Heap.get?_push_size _ rfl, rfl, rfl⟩ st it_lst h)
      | dct kvs =>
        simp only [wpIt, g] at h
        obtain ⟨ks, hH, pd, ty⟩ := I1.dictAt g
        obtain ⟨od, J⟩ := I1.inv.lock hH True.intro
        obtain ⟨I2, st2⟩ := lock_at I1 g hH pd J
        have h0 : (upd H1 a (.frz od (.dK ks))) a = some (.frz od (.dK ks)) := upd_same
        obtain ⟨hs, hgd, hx, es, ep, vs, hdt, hsz, kv, hm⟩ := J.frzK h0
        have n1 : ∀ o u, X.H_0 a ≠ some (.frz o u) := fun o u z => by rw [I1.st.2 a o u z] at hH; cases hH
        have n2 : ∀ o u, H a ≠ some (.frz o u) := fun o u z => by rw [st.2 a o u z] at hH; cases hH
        refine iter_keys hs hgd hx hdt (one_it (tk := s1.toks) I2 rfl (fun b o e => Heap.get?_push_of_some _ e) (turn_keys _ hdt) ⟨_, Heap.get?_push_size _ rfl, rfl, ?_⟩ (st.trans st2) (it_keys h0 (pd.keep (I1.hp.tupKw g))) h (finUnlk n1 n2))
        rw [hsz] <;> rfl
      | _ => simp only [wpIt, g] at h
  | _ => exact h.elim
theorem i_plain {tg e : Expr} {ie : E} (he : SndEx ca X M0 P e ie) : SndI ca X M0 P tg e .plain (.cons ie .nil) := by
  intro X3 pins s σ H σ3 M R I hw
  exact thn (he X3 pins s σ H σ3 M _ I hw) fun v s1 ⟨x, M1, xv, H1, I1, rv, rd, st, q⟩ => iter_plain I1 rv rd st q
theorem it3_of {tg : Expr} {R : ItR} {itv : Value} {s2 : Shared} (I : I3 (ct X ca) X M0 pins σ3 M σ H s)
    (h : PIE X pins σ tg (fun J H' => ∃ M' ds G fin, RM (ct X ca) H' M' ∧ Stp H M H' M' ∧ ItRel (ct X ca) J ds G H' ∧ FinOk ca X fin H ∧ R ds G M' fin) itv s2) : It3 ca X M0 tg pins σ3 σ H M R itv s2 := by
  obtain ⟨it, fp, tn, J, H', e, J', T, t0, f, M', ds, G, fin, r, st, hr, hf, q⟩ := h
  exact ⟨it, fp, tn, J, H', M', ds, G, fin, e, I.to J' r st, T, t0, f, st, hr, hf, q⟩
theorem one_arg {Q : List D → Mp → Prop} {X3 : Xp} {ie : E} (h : wpEs P X3 (.cons ie .nil) σ3 M Q) : wpEs P X3 (.cons ie .nil) σ3 M fun ds M' => ∃ d, ds = [d] ∧ Q ds M' := by
  have e : (fun (d : D) (M' : Mp) => ∃ d', [d] = [d'] ∧ Q [d] M') = fun d M' => Q [d] M' := by
    funext d M'
    exact propext ⟨fun ⟨_, _, q⟩ => q, fun q => ⟨d, rfl, q⟩⟩
  show wpE P X3 ie σ3 M fun (d : D) (M' : Mp) => ∃ d', [d] = [d'] ∧ Q [d] M'
  rw [e]
  exact h
theorem two_args {Q : List D → Mp → Prop} {X3 : Xp} {ie ie2 : E} (h : wpEs P X3 (.cons ie (.cons ie2 .nil)) σ3 M Q) : wpEs P X3 (.cons ie (.cons ie2 .nil)) σ3 M fun ds M' => (∃ d d', ds = [d, d']) ∧ Q ds M' := by
  have e : ∀ d : D, (fun (d' : D) (M' : Mp) => (∃ c c', [d, d'] = [c, c']) ∧ Q [d, d'] M') = fun d' M' => Q [d, d'] M' := by
    intro d
    funext d' M'
    exact propext ⟨fun ⟨_, q⟩ => q, fun q => ⟨⟨d, d', rfl⟩, q⟩⟩
  show wpE P X3 ie σ3 M fun (d : D) (M1 : Mp) => wpE P X3 ie2 σ3 M1 fun (d' : D) (M' : Mp) => (∃ c c', [d, d'] = [c, c']) ∧ Q [d, d'] M'
  have e2 : (fun (d : D) (M1 : Mp) => wpE P X3 ie2 σ3 M1 fun (d' : D) (M' : Mp) => (∃ c c', [d, d'] = [c, c']) ∧ Q [d, d'] M') = fun d M1 => wpE P X3 ie2 σ3 M1 fun d' M' => Q [d, d'] M' := by
    funext d M1
    rw [e d]
  rw [e2]
  exact h
theorem i_range1 {tg a : Expr} {ie : E} {p pos : Pos} (hg : Gl X "range") (hm : X.mg "range" = none) (hn : notStar a = true) (ha : SndEsx ca X M0 P [a] (.cons ie .nil)) : SndI ca X M0 P tg (.Call (.Name "range" p) [a] [] pos) .range (.cons ie .nil) := by
  intro X3 pins s σ H σ3 M R I hw
  have hs : starEach [a] X.env = [(false, eval a X.env)] := by rw [star_ok hn]; rfl
  refine thn ((pi_range1 hg hm (pa_of (ha X3)) hs).run pins s σ H _ I.inv ⟨σ3, M, _, ⟨I.lo, I.hp, I.st⟩, one_arg hw, fun vs H' ⟨ds, M', r, st, rd, ⟨d, e, q⟩⟩ => ?_⟩) fun v s1 h1 => thn h1 fun itv s2 h2 => it3_of I h2
  subst e
  obtain ⟨y, l, rfl, r1, r2⟩ := rd
  rw [show l = [] from r2]
  cases d with
  | int n =>
    rw [show y = .int n from r1]
    obtain ⟨⟨q1, q2⟩, q⟩ := q
    refine ⟨n, rfl, q1, q2, M', dRange 0 n, fun _ => True, id, r, st, ?_, finId, q⟩
    have := it_rng (ca := ca) (X := X) (lo := 0) (hi := n) (H0 := H')
    rwa [Int.sub_zero] at this
  | _ => exact q.elim
theorem i_range2 {tg a b : Expr} {ie ie2 : E} {p pos : Pos} (hg : Gl X "range") (hm : X.mg "range" = none) (hn : notStar a = true) (hn2 : notStar b = true) (ha : SndEsx ca X M0 P [a, b] (.cons ie (.cons ie2 .nil))) : SndI ca X M0 P tg (.Call (.Name "range" p) [a, b] [] pos) .range (.cons ie (.cons ie2 .nil)) := by
  intro X3 pins s σ H σ3 M R I hw
  have hs2 : starEach [b] X.env = [(false, eval b X.env)] := by rw [star_ok hn2]; rfl
  have hs : starEach [a, b] X.env = [(false, eval a X.env), (false, eval b X.env)] := by rw [star_ok hn, hs2]
  refine thn ((pi_range2 hg hm (pa_of (ha X3)) hs hs2).run pins s σ H _ I.inv ⟨σ3, M, _, ⟨I.lo, I.hp, I.st⟩, two_args hw, fun vs H' ⟨ds, M', r, st, rd, ⟨d, d', e⟩, q⟩ => ?_⟩) fun v s1 h1 => thn h1 fun itv s2 h2 => it3_of I h2
  subst e
  obtain ⟨y, l, rfl, r1, y2, l2, rfl, r2, r3⟩ := rd
  rw [show l2 = [] from r3]
  cases d with
  | int n => cases d' with
    | int m =>
      rw [show y = .int n from r1, show y2 = .int m from r2]
      obtain ⟨⟨⟨q1, q2⟩, q3, q4⟩, q⟩ := q
      exact ⟨n, m, rfl, ⟨q1, q2, q3, q4⟩, M', dRange n m, fun _ => True, id, r, st, it_rng, finId, q⟩
    | _ => exact q.elim
  | _ => exact q.elim
theorem i_rev {tg a : Expr} {ie : E} {p pos : Pos} (hg : Gl X "reversed") (hm : X.mg "reversed" = none) (hn : notStar a = true) (ha : SndEsx ca X M0 P [a] (.cons ie .nil)) : SndI ca X M0 P tg (.Call (.Name "reversed" p) [a] [] pos) .reversed (.cons ie .nil) := by
  intro X3 pins s σ H σ3 M R I hw
  have hs : starEach [a] X.env = [(false, eval a X.env)] := by rw [star_ok hn]; rfl
  refine thn ((pi_reversed hg hm (pa_of (ha X3)) hs).run pins s σ H _ I.inv ⟨σ3, M, _, ⟨I.lo, I.hp, I.st⟩, one_arg hw, fun vs H' ⟨ds, M', r, st, rd, ⟨d, e, q⟩⟩ => ?_⟩) fun v s1 h1 => thn h1 fun itv s2 h2 => it3_of I h2
  subst e
  obtain ⟨y, l, rfl, r1, r2⟩ := rd
  rw [show l = [] from r2]
  cases d with
  | ref a =>
    rw [show y = .ref a from r1]
    cases g : M' a with
    | none => simp only [wpIt, g] at q
    | some o =>
      cases o with
      | lst ds =>
        simp only [wpIt, g] at q
        obtain ⟨xs, hx, rs⟩ := r.lst g
        exact ⟨a, xs, rfl, SqL.of hx, M', ds.reverse, fun M' => M' a = some (.lst ds), id, r, st, it_rev rs.length, finId, q⟩
      | _ => simp only [wpIt, g] at q
  | _ => exact q.elim

/-- the value is a dict: it is locked -/
def teLock (ca : Nat → Addr) (X : Cx) (M0 : Mp) (P : Pr) (X3 : Xp) (ie : E) : TE := fun σ H Q => ∃ σ3 M Q3, (RL (ct X ca) H σ3 σ ∧ RM (ct X ca) H M ∧ Stp X.H_0 M0 H M) ∧ wpE P X3 ie σ3 M Q3 ∧
  ∀ x M' v H', RM (ct X ca) H' M' → Stp H M H' M' → Stp X.H_0 M0 H' M' → RD (ct X ca) H' x v → Q3 x M' → ∃ d ks, v = .ref d ∧ H' d = some (.dK ks) ∧ ∀ od, Q v (upd H' d (.frz od (.dK ks)))
theorem pe_lock {X3 : Xp} {e : Expr} {ie : E} (h : SndE ca X M0 P X3 e ie) : PE X e (teLock ca X M0 P X3 ie) := by
  refine ⟨fun pins s σ H Q I ⟨σ3, M, Q3, ⟨h1, h2, h3⟩, hw, hq⟩ => ?_⟩
  refine thn (h pins s σ H σ3 M Q3 ⟨I, h1, h2, h3⟩ hw) fun u s1 ⟨d, M1, v, H1, I1, rv, rd, st, q⟩ => ?_
  obtain ⟨a, ks, rfl, hH, hq⟩ := hq d M1 v H1 I1.hp st I1.st rd q
  obtain ⟨od, J⟩ := I1.inv.lock hH True.intro
  exact ⟨.ref a, _, J, rv, hq od⟩
theorem i_items {o : Expr} {ap cp tpos : Pos} {elts : List Expr} {kk : Nat} {io : E} (hn : noSuper o = true) (hl : (ap.endLine == cp.line) = true) (ho : SndEx ca X M0 P o io) : SndI ca X M0 P (.Tuple elts kk tpos) (.Call (.Attribute o "items" ap) [] [] cp) .items (.cons io .nil) := by
  intro X3 pins s σ H σ3 M R I hw
  refine thn ((pi_items (pe_lock (ho X3)) (noSuper_ok hn) hl).run pins s σ H _ I.inv ⟨σ3, M, _, ⟨I.lo, I.hp, I.st⟩, hw, fun x M' v H' r st st0 rd q => ?_⟩) fun v s1 h1 => thn h1 fun itv s2 h2 => it3_of I h2
  cases x with
  | ref a =>
    have e : v = .ref a := rd
    subst e
    have q : wpIt .items [.ref a] M' R := q
    cases g : M' a with
    | none => simp only [wpIt, g] at q
    | some o =>
      cases o with
      | dct kvs =>
        simp only [wpIt, g] at q
        obtain ⟨ks, hH, pd⟩ := r.dct g
        have n1 : ∀ o u, X.H_0 a ≠ some (.frz o u) := fun o u z => by rw [st0.2 a o u z] at hH; cases hH
        have n2 : ∀ o u, H a ≠ some (.frz o u) := fun o u z => by rw [st.2 a o u z] at hH; cases hH
        refine ⟨a, ks, rfl, hH, fun od => ⟨a, od, ks, rfl, upd_same, mset M' a (.lck kvs), _, _, _, r.write (m' := .lck kvs) g ⟨ks, rfl, Paired.mapP pd fun _ _ z => ⟨z.1, z.2.keep (r.tupKw g)⟩⟩, st.trans (write_stp r g), it_items upd_same (PD.keep (r.tupKw g) pd), finUnlk n1 n2, q⟩⟩
      | _ => simp only [wpIt, g] at q
  | _ => exact q.elim

/-! ### targets -/
theorem I3.store (I : I3 (ct X ca) X M0 pins σ3 M σ H s) {i : Nat} {d : D} {v : V} (rd : RD (ct X ca) H d v) {s' : Shared} (J : Inv X pins (σ.set i (some v)) H s') : I3 (ct X ca) X M0 pins (σ3.set i (some d)) M (σ.set i (some v)) H s' :=
  ⟨J, I.lo.set rd, I.hp, I.st⟩

def SndTg (ca : Nat → Addr) (X : Cx) (M0 : Mp) (tg : Expr) (t : Tg) : Prop :=
  ∀ (pins : List (Addr × Obj)) (s : Shared) (σ : L2.St) (H : Hp) (σ3 : Lo) (M : Mp) (d : D) (v : V) (u : Value) (k : Lo → Prop), I3 (ct X ca) X M0 pins σ3 M σ H s → RelV v u → RD (ct X ca) H d v → wpTg t d σ3 M k →
    wpAny (model X.prog X.w) X.A (assign tg X.env u) (fun _ s' => ∃ σ3' σ', I3 (ct X ca) X M0 pins σ3' M σ' H s' ∧ ((∀ j, j ∉ t.sl → σ'[j]? = σ[j]?) ∧ σ'.length = σ.length) ∧ k σ3') X.xe s
theorem tg_one {x : Str} {pos : Pos} {i : Nat} (ok : Ok3 ca X P cc) (hi : cc.slotW x = some i) : SndTg ca X M0 (.Name x pos) (.one i) := by
  intro pins s σ H σ3 M d v u k I rv rd h
  obtain ⟨h1, h2, h3⟩ := slotW_ok ok hi
  refine wpAny_assign_Name (store_ok I.inv ok.nd h1 h2 rv (fun s2 J => ⟨_, _, I.store rd J, ⟨fun j hj => ?_, List.length_set ..⟩, h⟩) h3)
  rw [List.getElem?_set_ne]
  intro e
  exact hj (by rw [e]; exact List.mem_singleton.mpr rfl)
/-- one behind another -/
def gNames : List Nat → TGs
  | [] => gNil
  | i :: l => gCons (gName i) (gNames l)
theorem each_names (cc : CC) : ∀ (es : List Expr) {l : List Nat} {env : Env}, cTgs cc es = some l → (assignEach es env).map (·.2) = es.map (fun e => assign e env) ∧ (assignEach es env).length = l.length ∧ (assignEach es env).findIdx? (·.1) = none
  | [], l, env, h => by cases h; exact ⟨rfl, rfl, rfl⟩
  | e :: es, l, env, h => by
    cases e with
    | Name x p =>
      simp only [cTgs] at h
      split at h
      · rename_i h1 h2
        cases h
        obtain ⟨g1, g2, g3⟩ := each_names cc es (env := env) h2
        have hc : assignEach (.Name x p :: es) env = (false, assign (.Name x p) env) :: assignEach es env := rfl
        refine ⟨by rw [hc, List.map_cons, List.map_cons, g1], by rw [hc, List.length_cons, List.length_cons, g2], ?_⟩
        rw [hc, List.findIdx?_cons]
        simp [g3]
      · cases h
    | _ => simp [cTgs] at h
theorem pgs_names (ok : Ok3 ca X P cc) : ∀ {es : List Expr} {l : List Nat}, cTgs cc es = some l → PGs X es (gNames l)
  | [], l, h => by cases h; exact pgs_nil
  | e :: es, l, h => by
    cases e with
    | Name x p =>
      simp only [cTgs] at h
      split at h
      · rename_i h1 h2
        cases h
        obtain ⟨n1, n2, n3⟩ := slotW_ok ok h1
        exact pgs_cons (pg_name ok.nd n1 n2 n3) (pgs_names ok h2) rfl
      · cases h
    | _ => simp [cTgs] at h
theorem names_ok {ca : Nat → Addr} {X : Cx} {H : Hp} : ∀ {l : List Nat} {ds : List D} {vs : List V} {σ3 σ3' : Lo} {σ : L2.St} {Q : L2.St → Hp → Prop}, RDs (ct X ca) H ds vs → RL (ct X ca) H σ3 σ → setMany l ds σ3 = some σ3' → (∀ σ', RL (ct X ca) H σ3' σ' → (∀ j, j ∉ l → σ'[j]? = σ[j]?) → σ'.length = σ.length → Q σ' H) → gNames l vs σ H Q
  | [], [], vs, σ3, σ3', σ, Q, r, rl, h, q => by cases h; exact ⟨r, q σ rl (fun _ _ => rfl) rfl⟩
  | i :: l, d :: ds, vs, σ3, σ3', σ, Q, r, rl, h, q => by
    obtain ⟨v, ws, rfl, r1, r2⟩ := r
    refine ⟨v, ws, rfl, names_ok r2 (rl.set r1) h fun σ' h1 h2 h3 => q σ' h1 (fun j hj => ?_) (by rw [h3, List.length_set])⟩
    rw [h2 j fun z => hj (List.mem_cons_of_mem _ z), List.getElem?_set_ne]
    intro e
    exact hj (by rw [e]; exact List.mem_cons_self)
  | [], _ :: _, _, _, _, _, _, _, _, h, _ => by cases h
  | _ :: _, [], _, _, _, _, _, _, _, h, _ => by cases h
theorem setMany_len : ∀ {l : List Nat} {ds : List D} {σ σ' : Lo}, setMany l ds σ = some σ' → ds.length = l.length
  | [], [], _, _, _ => rfl
  | i :: l, d :: ds, σ, σ', h => by rw [List.length_cons, List.length_cons, setMany_len (l := l) (ds := ds) h]
  | [], _ :: _, _, _, h => by cases h
  | _ :: _, [], _, _, h => by cases h
theorem tg_many {es : List Expr} {kk : Nat} {pos : Pos} {l : List Nat} (ok : Ok3 ca X P cc) (h : cTgs cc es = some l) : SndTg ca X M0 (.Tuple es kk pos) (.many l) := by
  intro pins s σ H σ3 M d v u k I rv rd hw
  obtain ⟨_, e2, e3⟩ := each_names cc es (env := X.env) h
  cases d with
  | tup ds =>
    obtain ⟨σ', hs, q⟩ := hw
    obtain ⟨a, xs, rfl, hq, rs⟩ := rd
    refine thn ((pg_tup (pos := pos) (k := kk) ok.hc (pgs_names ok h) e2 e3).run pins s σ H (.ref a) u (fun σ2 H2 => H2 = H ∧ RL (ct X ca) H σ' σ2 ∧ (∀ j, j ∉ l → σ2[j]? = σ[j]?) ∧ σ2.length = σ.length) I.inv rv ⟨a, xs, rfl, hq, by rw [← rs.length]; exact setMany_len hs, names_ok rs I.lo hs fun σ2 h2 h3 h4 => ⟨rfl, h2, h3, h4⟩⟩) fun _ s1 ⟨σ2, H2, J, e, rl, h3, h4⟩ => ?_
    subst e
    exact ⟨σ', σ2, ⟨J, rl, I.hp, I.st⟩, ⟨h3, h4⟩, q⟩
  | _ => exact hw.elim
end
end L3
end
section
set_option autoImplicit false
set_option linter.all false
set_option maxRecDepth 100000
/-! L3: comprehensions -/
namespace L3
open PySem L2 PyProof.Rows

/-- a heap in which everything is told: nothing is asked of what is untold -/
def MAll : Mp := fun _ => some (.lst [])
section
variable {ca : Nat → Addr} {X : Cx} {M0 M : Mp} {P : Pr} {cc : CC}
/-- a state of a block -/
theorem i3_blk {Y : Cx} {pins : List (Addr × Obj)} {σ : L2.St} {H : Hp} {s : Shared} {σ3 : Lo} {M : Mp} (I : Inv Y pins σ H s) (rl : RL (ct Y ca) H σ3 σ) (rm : RM (ct Y ca) H M) : I3 (ct Y ca) Y MAll pins σ3 M σ H s :=
  ⟨I, rl, rm, fun a o _ z => (nomatch z), I.base.frzs⟩
def teB (C : Ct) (P : Pr) (ie : E) : TE := fun σ H Q => ∃ σ3 M Q3, (RL C H σ3 σ ∧ RM C H M) ∧ wpE P (fun _ _ => False) ie σ3 M Q3 ∧ ∀ x M' v H', RL C H' σ3 σ → RM C H' M' → Stp H M H' M' → RD C H' x v → Q3 x M' → Q v H'
def ttB (C : Ct) (P : Pr) (it : T) : TT := fun σ H Q => ∃ σ3 M k, (RL C H σ3 σ ∧ RM C H M) ∧ wpT P (fun _ _ => False) it σ3 M k ∧ ∀ b M' H', RL C H' σ3 σ → RM C H' M' → Stp H M H' M' → k b M' → Q b H'
def tgB (C : Ct) (t : Tg) : TG := fun v σ H Q => ∃ σ3 M d k, (RL C H σ3 σ ∧ RM C H M ∧ RD C H d v) ∧ wpTg t d σ3 M k ∧ ∀ σ3' σ', RL C H σ3' σ' → (∀ j, j ∉ t.sl → σ'[j]? = σ[j]?) → σ'.length = σ.length → k σ3' → Q σ' H
def tiB (ca : Nat → Addr) (X : Cx) (M0 : Mp) (P : Pr) (X3 : Xp) (k : ItK) (es : Es) : TI := fun σ H R => ∃ σ3 M R3, (RL (ct X ca) H σ3 σ ∧ RM (ct X ca) H M ∧ Stp X.H_0 M0 H M) ∧ wpEs P X3 es σ3 M (fun ds M1 => wpIt k ds M1 R3) ∧
  ∀ J H' M' ds G fin, RL (ct X ca) H' σ3 σ → RM (ct X ca) H' M' → Stp X.H_0 M0 H' M' → Stp H M H' M' → ItRel (ct X ca) J ds G H' → FinOk ca X fin H → R3 ds G M' fin → R J H'
theorem pe_B {Y : Cx} {e : Expr} {ie : E} (h : SndE ca Y MAll P (fun _ _ => False) e ie) : PE Y e (teB (ct Y ca) P ie) := by
  refine ⟨fun pins s σ H Q I ⟨σ3, M, Q3, ⟨h1, h2⟩, hw, hq⟩ => ?_⟩
  exact thn (h pins s σ H σ3 M Q3 (i3_blk I h1 h2) hw) fun u s1 ⟨d, M1, v, H1, I1, rv, rd, st, q⟩ => ⟨v, H1, I1.inv, rv, hq d M1 v H1 I1.lo I1.hp st rd q⟩
theorem pt_B {Y : Cx} {e : Expr} {ie : T} (h : SndT ca Y MAll P (fun _ _ => False) e ie) : PT Y e (ttB (ct Y ca) P ie) := by
  refine ⟨fun pins s σ H Q I ⟨σ3, M, Q3, ⟨h1, h2⟩, hw, hq⟩ => ?_⟩
  exact thn (h _ pins s σ H σ3 M Q3 (.inl rfl) (i3_blk I h1 h2) hw) fun u s1 ⟨M1, H1, I1, st, q⟩ => ⟨H1, I1.inv, hq u M1 H1 I1.lo I1.hp st q⟩
theorem pts_B0 {Y : Cx} : PTs Y [] (ttB (ct Y ca) P .tt) := by
  refine ⟨fun pins s σ H Q I ⟨σ3, M, Q3, ⟨h1, h2⟩, hw, hq⟩ => ?_⟩
  exact pts_nil.run pins s σ H Q I (hq true M H h1 h2 Stp.refl hw)
theorem pg_B {Y : Cx} {tg : Expr} {t : Tg} (h : SndTg ca Y MAll tg t) : PG Y tg (tgB (ct Y ca) t) := by
  refine ⟨fun pins s σ H v u Q I rv ⟨σ3, M, d, k, ⟨h1, h2, h3⟩, hw, hq⟩ => ?_⟩
  exact thn (h pins s σ H σ3 M d v u k (i3_blk I h1 h2) rv h3 hw) fun _ s1 ⟨σ3', σ', I1, ⟨g1, g2⟩, q⟩ => ⟨σ', H, I1.inv, hq σ3' σ' I1.lo g1 g2 q⟩
theorem pi_B {X3 : Xp} {tg e : Expr} {k : ItK} {es : Es} (h : SndI ca X M0 P tg e k es) : PI X tg e (tiB ca X M0 P X3 k es) := by
  refine ⟨fun pins s σ H R I ⟨σ3, M, R3, ⟨h1, h2, h3⟩, hw, hq⟩ => ?_⟩
  exact thn (h X3 pins s σ H σ3 M R3 ⟨I, h1, h2, h3⟩ hw) fun v s1 g1 => thn g1 fun itv s2 ⟨it, fp, tn, J, H', M', ds, G, fin, e, I2, T, t0, f, st, hr, hf, q⟩ =>
    ⟨it, fp, tn, J, H', e, I2.inv, T, t0, f, hq J H' M' ds G fin I2.lo I2.hp I2.st st hr hf q⟩
theorem wipe_at {σ : L2.St} : ∀ {vs : List Nat} (j : Nat), j ∉ vs → (wipe σ vs)[j]? = σ[j]?
  | [], j, _ => rfl
  | v :: vs, j, h => by
    unfold wipe
    rw [List.getElem?_set_ne (fun e => h (by rw [e]; exact List.mem_cons_self)), wipe_at j fun z => h (List.mem_cons_of_mem _ z)]
theorem wipe_in {σ : L2.St} : ∀ {vs : List Nat} (j : Nat), j ∈ vs → j < σ.length → (wipe σ vs)[j]? = some none
  | v :: vs, j, h, hl => by
    unfold wipe
    by_cases e : v = j
    · subst e
      rw [List.getElem?_set_self (by rw [wipe_length]; exact hl)]
    · rw [List.getElem?_set_ne e]
      exact wipe_in j ((List.mem_cons.mp h).resolve_left fun z => e z.symm) hl
theorem wipe_eq {σ σ' : L2.St} {vs : List Nat} (h : ∀ j, j ∉ vs → σ'[j]? = σ[j]?) (hl : σ'.length = σ.length) : wipe σ' vs = wipe σ vs := by
  apply List.ext_getElem?
  intro j
  by_cases hj : j ∈ vs
  · by_cases hlt : j < σ.length
    · rw [wipe_in j hj (by rw [hl]; exact hlt), wipe_in j hj hlt]
    · rw [List.getElem?_eq_none (by rw [wipe_length]; omega), List.getElem?_eq_none (by rw [wipe_length]; omega)]
  · rw [wipe_at j hj, wipe_at j hj, h j hj]
theorem wipe_wipe {σ : L2.St} {vs : List Nat} : wipe (wipe σ vs) vs = wipe σ vs := wipe_eq (fun j hj => wipe_at j hj) (wipe_length ..)
theorem rl_wipe {C : Ct} {H : Hp} {σ3 : Lo} {σ : L2.St} (h : RL C H σ3 σ) (vs : List Nat) : RL C H (wipeL vs σ3) (wipe σ vs) := by
  have len : ∀ (vs : List Nat) (σ3 : Lo), (wipeL vs σ3).length = σ3.length := by
    intro vs
    induction vs with
    | nil => intro σ3; rfl
    | cons v vs ih => intro σ3; show (wipeL vs (σ3.set v none)).length = _; rw [ih, List.length_set]
  have at_ : ∀ (vs : List Nat) (σ3 : Lo) (i : Nat) (d : D), (wipeL vs σ3)[i]? = some (some d) → i ∉ vs ∧ σ3[i]? = some (some d) := by
    intro vs
    induction vs with
    | nil => intro σ3 i d e; exact ⟨List.not_mem_nil, e⟩
    | cons v vs ih =>
      intro σ3 i d e
      obtain ⟨h1, h2⟩ := ih (σ3.set v none) i d e
      by_cases hi : v = i
      · subst hi
        by_cases hl : v < σ3.length
        · rw [List.getElem?_set_self hl] at h2; cases h2
        · rw [List.getElem?_eq_none (by rw [List.length_set]; omega)] at h2; cases h2
      · rw [List.getElem?_set_ne hi] at h2
        exact ⟨fun z => (List.mem_cons.mp z).elim (fun z => hi z.symm) h1, h2⟩
  refine ⟨by rw [len, wipe_length]; exact h.1, fun i d e => ?_⟩
  obtain ⟨h1, h2⟩ := at_ vs σ3 i d e
  obtain ⟨v, hv, rd⟩ := h.2 i d h2
  exact ⟨v, by rw [wipe_at i h1]; exact hv, rd⟩
/-- {k: v for target in iter if ..} -/
theorem s_dcomp {X3 : Xp} {kx vx tg iter : Expr} {ifs : List Expr} {scope : Scope} {pos : Pos} {ik iv : E} {t : Tg} {k : ItK} {es : Es} {ic : T} (own : List (Str × Nat)) (ok : Ok3 ca X P cc) (bok : BlkOk X.N X.env.scope scope own) (hsl : ∀ i ∈ t.sl, i ∈ own.map (·.2)) (hi : SndI ca X M0 P tg iter k es) (hs : ∀ x, foldedSetIterable iter X.env x = pure x)
    (hg : ∀ (s : Shared) (H : Hp) (C : Addr) (cl : List (Str × Addr)) (fp : List Addr), SndTg ca (X.blk s H scope (compEnvC scope cl C X.env) fp) MAll tg t)
    (ht : ∀ (s : Shared) (H : Hp) (C : Addr) (cl : List (Str × Addr)) (fp : List Addr), PTs (X.blk s H scope (compEnvC scope cl C X.env) fp) ifs (ttB (ct X ca) P ic))
    (hk : ∀ (s : Shared) (H : Hp) (C : Addr) (cl : List (Str × Addr)) (fp : List Addr), SndE ca (X.blk s H scope (compEnvC scope cl C X.env) fp) MAll P (fun _ _ => False) kx ik)
    (hv : ∀ (s : Shared) (H : Hp) (C : Addr) (cl : List (Str × Addr)) (fp : List Addr), SndE ca (X.blk s H scope (compEnvC scope cl C X.env) fp) MAll P (fun _ _ => False) vx iv) :
    SndE ca X M0 P X3 (.DictComp kx vx [⟨tg, iter, ifs, 0⟩] scope pos) (.dcomp (own.map (·.2)) ik iv t k es ic) := by
  intro pins s σ H σ3 M Q I hw
  let Qd : VK := fun v H' => ∃ D acc kvs M' fin, v = .ref D ∧ RL (ct X ca) H' σ3 σ ∧ RM (ct X ca) H' M' ∧ Stp H M H' M' ∧ Stp X.H_0 M0 H' M' ∧ (∀ o, H D = some o → M D = none → False) ∧ H' D = some (.dK kvs) ∧ M' D = none ∧ PD (ct X ca) H' acc kvs ∧ FinOk ca X fin H ∧ wpNew (fin M') (.dct acc) Q
  have run := (pe_dc (tk := teB (ct X ca) P ik) (tv := teB (ct X ca) P iv) (tt := ttB (ct X ca) P ic) (g := tgB (ct X ca) t) (wi := tiB ca X M0 P X3 k es) (pos := pos) ok.hc ok.nd (pi_B hi) bok (fun s H C cl fp => pg_B (hg s H C cl fp)) ht (fun s H C cl fp => pe_B (hk s H C cl fp)) (fun s H C cl fp => pe_B (hv s H C cl fp)) hs).run pins s σ H Qd I.inv ?_
  · refine thn run fun u s' ⟨v, H', J, rv, D, acc, kvs, M', fin, ev, rl, rm, st, st0, hD0, hD, hDM, pd, ⟨fn, hf⟩, q⟩ => ?_
    subst ev
    -- the new dict is told
    have rm2 : RM (ct X ca) H' (mset M' D (.dct acc)) := fun b m hb => by
      by_cases h : b = D
      · subst h
        rw [mset_same] at hb
        cases hb
        exact ⟨_, hD, kvs, rfl, pd⟩
      · rw [mset_ne h] at hb
        exact rm b m hb
    have up : ∀ {Ha : Hp} {Ma : Mp}, Stp Ha Ma H' M' → (∀ o, Ha D = some o → Ma D = none → False) → Stp Ha Ma H' (mset M' D (.dct acc)) := fun {Ha Ma} z hn => ⟨fun b o h1 h2 => by
      obtain ⟨g1, g2⟩ := z.1 b o h1 h2
      have ne : b ≠ D := by rintro rfl; exact hn o h1 h2
      exact ⟨g1, by rw [mset_ne ne]; exact g2⟩, z.2⟩
    have n0 : ∀ o, X.H_0 D = some o → M0 D = none → False := fun o h1 h2 => by
      obtain ⟨g1, g2⟩ := I.st.1 D o h1 h2
      exact hD0 o g1 g2
    have I2 : I3 (ct X ca) X M0 pins σ3 (mset M' D (.dct acc)) σ H' s' := ⟨J, rl, rm2, up st0 n0⟩
    obtain ⟨H'', I3', k1, k2, k3⟩ := hf M0 pins σ3 _ σ H' s' I2 (st.tupK I.hp)
    obtain ⟨e1, e2⟩ := fn M' D (.dct acc) hDM trivial
    rw [e1] at I3' k3
    refine ⟨.ref D, _, .ref D, H'', I3', rv, rfl, ⟨fun b o h1 h2 => ?_, k1.2⟩, q D e2⟩
    obtain ⟨g1, g2⟩ := st.1 b o h1 h2
    have ne : b ≠ D := by rintro rfl; exact hD0 o h1 h2
    have := k3 b o g1 (by rw [mset_ne ne]; exact g2)
    exact this
  · refine ⟨σ3, M, _, ⟨I.lo, I.hp, I.st⟩, hw, fun J H1 M1 ds G fin rl1 rm1 st01 st1 hr hf w D hD => ?_⟩
    have hD0 : ∀ o, H D = some o → M D = none → False := fun o h1 h2 => by
      have := (st1.1 D o h1 h2).1
      rw [hD] at this
      cases this
    have nM : M1 D = none := rm1.free hD
    have k1 : TupK H1 (upd H1 D (.dK [])) := tupK_new hD
    let body : L3.D → Mp → (Option (L3.D × L3.D) → Mp → Prop) → Prop := fun x M kk => wpTg t x (wipeL (own.map (·.2)) σ3) M fun σ1 => wpT P (fun _ _ => False) ic σ1 M fun r M3 => if r = true then wpE P (fun _ _ => False) ik σ1 M3 fun d M4 => wpE P (fun _ _ => False) iv σ1 M4 fun d' M5 => kk (some (d, d')) M5 else kk none M3
    let fn : List (L3.D × L3.D) → Mp → Prop := fun acc M5 => wpNew (fin M5) (.dct acc) Q
    let St : Nat → Hp → Prop := fun i Hc => i ≤ ds.length ∧ ∃ acc kvs M', RL (ct X ca) Hc σ3 σ ∧ RM (ct X ca) Hc M' ∧ Stp H1 M1 Hc M' ∧ Hc D = some (.dK kvs) ∧ M' D = none ∧ PD (ct X ca) Hc acc kvs ∧ dcompL body G (ds.drop i) acc M' fn
    refine ⟨fun i m Hc => m = ds.length - i ∧ St i Hc, ⟨ds.length, rfl, Nat.zero_le _, [], [], M1, rl1.keep k1, rm1.new0 hD, upd_stp hD, upd_same, nM, .nil, w⟩, ?_⟩
    rintro i m Hc ⟨rfl, hi, acc, kvs, M', rl, rm, st, hcD, nD, pd, w⟩
    have kc := st.tupK rm1
    by_cases hlt : i < ds.length
    · rw [List.drop_eq_getElem_cons hlt] at w
      obtain ⟨g, w⟩ := w
      obtain ⟨go, yl⟩ := (hr Hc M' kc rm g).1 i ds[i] (List.getElem?_eq_getElem hlt)
      refine .inr ⟨go, St (i + 1), fun H' n => ⟨ds.length - (i + 1), by omega, rfl, n⟩, fun x H' y => ?_⟩
      obtain ⟨rmY, stY, rdY⟩ := yl x H' y
      have kY := stY.tupK rm
      obtain ⟨dY, nDY⟩ := stY.1 D _ hcD nD
      refine ⟨wipeL (own.map (·.2)) σ3, M', ds[i], _, ⟨rl_wipe (rl.keep kY) _, rmY, rdY⟩, w, fun σ3' σ2 rl2 hj hl w2 => ⟨?_, ?_⟩⟩
      · rw [wipe_eq (σ := wipe σ (own.map (·.2))) (fun j hj2 => hj j fun z => hj2 (hsl j z)) hl, wipe_wipe]
      refine ⟨σ3', M', _, ⟨rl2, rmY⟩, w2, fun b M3 H3 rl3 rm3 st3 w3 => ?_⟩
      have k3 := st3.tupK rmY
      obtain ⟨d3, nD3⟩ := st3.1 D _ dY nDY
      cases b with
      | false =>
        simp only [Bool.false_eq_true, if_false] at w3 ⊢
        exact ⟨hlt, acc, kvs, M3, (rl.keep kY).keep k3, rm3, (st.trans stY).trans st3, d3, nD3, PD.keep k3 (PD.keep kY pd), w3⟩
      | true =>
        simp only [if_true] at w3 ⊢
        refine ⟨σ3', M3, _, ⟨rl3, rm3⟩, w3, fun x4 M4 v4 H4 rl4 rm4 st4 rd4 w4 => ⟨σ3', M4, _, ⟨rl4, rm4⟩, w4, fun x5 M5 v5 H5 rl5 rm5 st5 rd5 w5 => ?_⟩⟩
        obtain ⟨d4, nD4⟩ := st4.1 D _ d3 nD3
        obtain ⟨d5, nD5⟩ := st5.1 D _ d4 nD4
        obtain ⟨⟨hk, hlen⟩, w5⟩ := w5
        obtain ⟨kk, rfl, kr⟩ := key_rd rd4 hk
        have k4 := st4.tupK rm3
        have k5 := st5.tupK rm4
        have pd5 : PD (ct X ca) H5 acc kvs := PD.keep k5 (PD.keep k4 (PD.keep k3 (PD.keep kY pd)))
        have kN : TupK H5 (upd H5 D (.dK (putK kvs kk v5))) := tupK_set d5 (fun xs e => nomatch e) fun ob z e => nomatch e
        refine ⟨kvs, kk, rfl, d5, by rw [← pd5.len]; exact hlen, hlt, dput acc x4 x5, putK kvs kk v5, M5, ((((rl.keep kY).keep k3).keep k4).keep k5).keep kN, fun b o hb => ?_, ⟨fun b o h1 h2 => ?_, fun b o u h1 => ?_⟩, upd_same, nD5, PD.keep kN (pd_put kr rd5 pd5), w5⟩
        · obtain ⟨u, hu, ro⟩ := rm5 b o hb
          have ne : b ≠ D := by rintro rfl; rw [nD5] at hb; cases hb
          exact ⟨u, by rw [upd_ne ne]; exact hu, ro.keep kN⟩
        · have z := ((((st.trans stY).trans st3).trans st4).trans st5).1 b o h1 h2
          have ne : b ≠ D := by rintro rfl; rw [hD] at h1; cases h1
          exact ⟨by rw [upd_ne ne]; exact z.1, z.2⟩
        · have z := ((((st.trans stY).trans st3).trans st4).trans st5).2 b o u h1
          have ne : b ≠ D := by rintro rfl; rw [hD] at h1; cases h1
          rw [upd_ne ne]; exact z
    · have ei : i = ds.length := by omega
      subst ei
      rw [List.drop_length] at w
      obtain ⟨g, w⟩ := w
      exact .inl ⟨(hr Hc M' kc rm g).2, D, acc, kvs, M', fin, rfl, rl, rm, st1.trans st, st01.trans st, hD0, hcD, nD, pd, hf, w⟩
end
end L3
end
section
set_option autoImplicit false
set_option linter.all false
set_option maxRecDepth 100000
/-! L3: every compiled expression is sound -/
namespace L3
open PySem L2 PyProof.Rows

section
variable {ca : Nat → Addr} {X : Cx} {M0 M : Mp} {pins : List (Addr × Obj)} {σ3 : Lo} {σ : L2.St} {H : Hp} {s : Shared} {P : Pr} {X3 : Xp} {cc : CC}
theorem two_tru {v : Value} {x : D} {av : V} {k : Bool → Mp → Prop} {Z : Bool → Shared → Prop} (I : I3 (ct X ca) X M0 pins σ3 M σ H s) (rv : RelV av v) (rd : RD (ct X ca) H x av) (h : truthy x M fun b => k b M)
    (z : ∀ b s', TP3 (ct X ca) X M0 pins σ3 σ H M k b s' → Z b s') : wpAny (model X.prog X.w) X.A (PySem.truthy v) Z X.xe s := thn (o_tru I rv rd h) z
theorem s_cmp2 {a b c : Expr} {ia ib ic : E} {pos : Pos} {o o' : CmpOp} (ok : Ok3 ca X P cc) (hm : lastMarks [o, o'] [b, c] = false) (ha : SndE ca X M0 P X3 a ia) (hb : SndE ca X M0 P X3 b ib) (hc : SndE ca X M0 P X3 c ic) :
    SndE ca X M0 P X3 (.Compare a [o, o'] [b, c] pos) (.cmp2 (cCop o) (cCop o') ia ib ic) := by
  intro pins s σ H σ3 M Q I hw
  refine Compare_chain (thn (ha pins s σ H σ3 M _ I hw) fun v s1 ⟨x, M1, av, H1, I1, rv, rd, st, hw1⟩ => chain_link (thn (hb pins s1 σ H1 σ3 M1 _ I1 hw1) fun u s2 ⟨y, M2, bv, H2, I2, rv2, rd2, st2, hw2⟩ => ?_)) hm
  have h1 := o_cmp ok.hu ok.sy (cCop o) (ca := ca) pins s2 σ H2 M0 M2 σ3 x y av bv v u (fun d M3 => ∃ r, d = .bl r ∧ M3 = M2 ∧ (if r = true then wpE P X3 ic σ3 M2 fun z M3 => wpCmp (cCop o') y z M3 fun r' => Q (.bl r') M3 else Q (.bl false) M2)) I2 rv rv2 (rd.keep (st2.tupK I1.hp)) rd2
  have h2 := h1 (by
    revert hw2
    generalize hG : (fun r : Bool => if r = true then wpE P X3 ic σ3 M2 fun z M3 => wpCmp (cCop o') y z M3 fun r' => Q (.bl r') M3 else Q (.bl false) M2) = G
    intro hw2
    have : (fun r : Bool => ∃ r', D.bl r = .bl r' ∧ M2 = M2 ∧ G r') = G := by
      funext r
      apply propext
      constructor
      · rintro ⟨r', e, _, g⟩; cases e; exact g
      · intro g; exact ⟨r, rfl, rfl, g⟩
    have e2 : (fun r : Bool => ∃ r', D.bl r = .bl r' ∧ M2 = M2 ∧ (if r' = true then wpE P X3 ic σ3 M2 fun z M3 => wpCmp (cCop o') y z M3 fun r' => Q (.bl r') M3 else Q (.bl false) M2)) = G := by
      rw [← this]; funext r; rw [← hG]
    show wpCmp (cCop o) x y M2 _
    rw [e2]
    exact hw2)
  rw [cop_c] at h2
  refine thn h2 fun d s3 ⟨dd, M3, v3, H3, I3', r3, rd3, st3, r, e1, e2, q3⟩ => ?_
  subst e1; subst e2
  have e3 : v3 = .bl r := rd3
  subst e3
  cases r3
  refine wpAny_truthy_bool ?_
  cases r with
  | false => exact ite_ff (ep_st (st.trans (st2.trans st3)) (ep_bl I3' I3'.inv q3))
  | true =>
    refine ite_tt (chain_last (thn (hc pins s3 σ H3 σ3 M3 _ I3' q3) fun w s4 ⟨z, M4, cv, H4, I4, rv4, rd4, st4, q4⟩ => ?_))
    have h5 := o_cmp ok.hu ok.sy (cCop o') (ca := ca) pins s4 σ H4 M0 M4 σ3 y z bv cv u w Q I4 rv2 rv4 ((rd2.keep (st3.tupK I2.hp)).keep (st4.tupK I3'.hp)) rd4 q4
    rw [cop_c] at h5
    exact thn h5 fun _ _ e => ep_st ((st.trans (st2.trans st3)).trans st4) e
theorem s_cmp2T {a b c : Expr} {ia ib ic : E} {pos : Pos} {o o' : CmpOp} (ok : Ok3 ca X P cc) (hm : lastMarks [o, o'] [b, c] = false) (ha : SndE ca X M0 P X3 a ia) (hb : SndE ca X M0 P X3 b ib) (hc : SndE ca X M0 P X3 c ic) :
    SndT ca X M0 P X3 (.Compare a [o, o'] [b, c] pos) (.val (.cmp2 (cCop o) (cCop o') ia ib ic)) := by
  intro whole pins s σ H σ3 M k _ I hw
  refine isTrue_chain (thn (ha pins s σ H σ3 M _ I hw) fun v s1 ⟨x, M1, av, H1, I1, rv, rd, st, hw1⟩ => test_link (thn (hb pins s1 σ H1 σ3 M1 _ I1 hw1) fun u s2 ⟨y, M2, bv, H2, I2, rv2, rd2, st2, hw2⟩ => ?_)) hm
  let G : Bool → Prop := fun r : Bool => if r = true then wpE P X3 ic σ3 M2 fun z M3 => wpCmp (cCop o') y z M3 fun r' => truthy (.bl r') M3 fun b => k b M3 else truthy (.bl false) M2 fun b => k b M2
  have hw3 : wpCmp (cCop o) x y M2 G := hw2
  have h1 := o_cmp ok.hu ok.sy (cCop o) (ca := ca) pins s2 σ H2 M0 M2 σ3 x y av bv v u (fun d M3 => ∃ r, d = .bl r ∧ M3 = M2 ∧ G r) I2 rv rv2 (rd.keep (st2.tupK I1.hp)) rd2
  have h2 := h1 (by
    have e2 : (fun r : Bool => ∃ r', D.bl r = .bl r' ∧ M2 = M2 ∧ G r') = G := by
      funext r
      apply propext
      constructor
      · rintro ⟨r', e, _, g⟩; cases e; exact g
      · intro g; exact ⟨r, rfl, rfl, g⟩
    show wpCmp (cCop o) x y M2 _
    rw [e2]
    exact hw3)
  rw [cop_c] at h2
  refine thn h2 fun d s3 ⟨dd, M3, v3, H3, I3', r3, rd3, st3, r, e1, e2, q3⟩ => ?_
  subst e1; subst e2
  have e3 : v3 = .bl r := rd3
  subst e3
  cases r3
  refine wpAny_truthy_bool ?_
  cases r with
  | false => exact ite_ff ⟨M3, H3, I3', st.trans (st2.trans st3), q3⟩
  | true =>
    refine ite_tt (test_last (thn (hc pins s3 σ H3 σ3 M3 _ I3' q3) fun w s4 ⟨z, M4, cv, H4, I4, rv4, rd4, st4, q4⟩ => ?_))
    have h5 := o_cmp ok.hu ok.sy (cCop o') (ca := ca) pins s4 σ H4 M0 M4 σ3 y z bv cv u w (fun d M5 => truthy d M5 fun b => k b M5) I4 rv2 rv4 ((rd2.keep (st3.tupK I2.hp)).keep (st4.tupK I3'.hp)) rd4 q4
    rw [cop_c] at h5
    exact thn h5 fun c s5 ⟨d5, M5, v5, H5, I5, r5, rd5, st5, q5⟩ => thn (o_tru I5 r5 rd5 q5) fun _ _ e => tp_st ((((st.trans (st2.trans st3)).trans st4)).trans st5) e
theorem if_none {b : Bool} {α : Type} {a : Option α} {c : α} (h : (if b = true then none else a) = some c) : b = false ∧ a = some c := by
  cases b with
  | true => cases h
  | false => exact ⟨rfl, h⟩
theorem if_some {b : Bool} {α : Type} {a : Option α} {c : α} (h : (if b = true then a else none) = some c) : b = true ∧ a = some c := by
  cases b with
  | true => exact ⟨rfl, h⟩
  | false => cases h
end

section
variable {ca : Nat → Addr} {X : Cx} {M0 M : Mp} {P : Pr} {cc : CC}
theorem cEs_one {n : Nat} {a : Expr} {ies : Es} (h : cEs n cc [a] = some ies) : ∃ ie, ies = .cons ie .nil := by
  cases n with
  | zero => simp [cEs] at h
  | succ n =>
    simp only [cEs] at h
    obtain ⟨_, h⟩ := if_some h
    split at h
    · rename_i h1 h2
      cases h
      cases n with
      | zero => simp [cEs] at h2
      | succ n => simp [cEs] at h2; subst h2; exact ⟨_, rfl⟩
    · cases h
theorem cEs_two {n : Nat} {a b : Expr} {ies : Es} (h : cEs n cc [a, b] = some ies) : ∃ ie ie2, ies = .cons ie (.cons ie2 .nil) := by
  cases n with
  | zero => simp [cEs] at h
  | succ n =>
    unfold cEs at h
    obtain ⟨_, h⟩ := if_some h
    split at h
    · rename_i h1 h2
      cases h
      obtain ⟨ie2, rfl⟩ := cEs_one h2
      exact ⟨_, _, rfl⟩
    · cases h
theorem cEs_nil {n : Nat} {ies : Es} (h : cEs n cc [] = some ies) : ies = .nil := by
  cases n with
  | zero => simp [cEs] at h
  | succ n => simpa [cEs] using h.symm
theorem cTg_ok {tg : Expr} {t : Tg} (ok : Ok3 ca X P cc) (h : cTg cc tg = some t) : SndTg ca X M0 tg t := by
  unfold cTg at h
  split at h
  · split at h
    · cases h; exact tg_one ok (by assumption)
    · cases h
  · split at h
    · cases h; exact tg_many ok (by assumption)
    · cases h
  · cases h
theorem slotW_mem {x : Str} {i : Nat} (h : cc.slotW x = some i) : cc.N.findIdx? (· == x) = some i ∧ (cc.sc.names.lookup x = some .local ∨ cc.sc.names.lookup x = some .cell) := by
  unfold CC.slotW at h
  cases e : cc.sc.names.lookup x with
  | none => rw [e] at h; cases h
  | some k =>
    rw [e] at h
    cases k with
    | «local» => exact ⟨h, .inl rfl⟩
    | cell =>
      cases ec : cc.cs with
      | true => rw [ec] at h; exact ⟨h, .inr rfl⟩
      | false => rw [ec] at h; cases h
    | _ => cases h
theorem blk_ok {N : List Str} {sc scope : Scope} (h : blkB N sc scope = true) : BlkOk N sc scope (ownC N scope) := by
  unfold blkB at h
  simp only [Bool.and_eq_true, decide_eq_true_eq, List.all_eq_true, Bool.or_eq_true, Bool.not_eq_true', decide_eq_false_iff_not, Bool.or_eq_false_iff] at h
  obtain ⟨⟨⟨h1, h2⟩, h3⟩, h4⟩ := h
  refine ⟨h1, h2, fun p hp => ?_, fun y hy e => (h3 y hy).resolve_left fun z => z e, fun y hy e => ?_⟩
  · obtain ⟨y, _, e⟩ := List.mem_filterMap.mp hp
    split at e
    · cases q : N.findIdx? (· == y.1) with
      | none => rw [q] at e; cases e
      | some i =>
        rw [q] at e
        cases e
        exact findIdx_get q
    · cases e
  · rcases h4 y hy with z | z
    · exact absurd e (by rintro (e | e); exact z.1 e; exact z.2 e)
    · rcases z with z | z
      · exact .inl (by simpa using z)
      · exact .inr (by simpa using z)
end
theorem s_cidx1 {ca : Nat → Addr} {X : Cx} {M0 : Mp} {P : Pr} {cc : CC} {X3 : Xp} {x : Str} {ap p pos : Pos} {ds : List D} {es : List Expr} {ies : Es} (h1 : es.length = 1) (ok : Ok3 ca X P cc) (hf : cc.glob x = some (.con (.tup ds))) (hl : (ap.endLine == pos.line) = true) (hp : Plain es) (ha : SndEs ca X M0 P X3 es ies) :
    SndE ca X M0 P X3 (.Call (.Attribute (.Name x p) "index" ap) es [] pos) (.cidx ds ies) := by
  match es, h1 with
  | [e], _ => exact s_cidx ok hf hl hp ha
/-- the block's context -/
theorem ok_blk {ca : Nat → Addr} {X : Cx} {P : Pr} {cc : CC} {scope : Scope} (ok : Ok3 ca X P cc) (s : Shared) (H : Hp) (C : Addr) (cl : List (Str × Addr)) (fp : List Addr) :
    Ok3 ca (X.blk s H scope (compEnvC scope cl C X.env) fp) P { cc with sc := relC scope cc.sc, cs := false } where
  N := ok.N
  sc := by
    show relC scope cc.sc = relabel scope X.env
    rw [ok.sc]
    rfl
  nd := ok.nd
  g := ⟨ok.g.fn, ok.g.blt, ok.g.cls, ok.g.mth, ok.g.fl, ok.g.con⟩
  hu := ok.hu
  hg := ok.hg
  hc := ok.hc
  sy := ok.sy
  cell := fun h => nomatch h

def AllE (n : Nat) : Prop := ∀ (ca : Nat → Addr) (X : Cx) (M0 : Mp) (P : Pr) (cc : CC), Ok3 ca X P cc →
  (∀ (X3 : Xp) (e : Expr) (i : E), cE n cc e = some i → SndE ca X M0 P X3 e i) ∧ (∀ (X3 : Xp) (es : List Expr) (i : Es), cEs n cc es = some i → SndEs ca X M0 P X3 es i) ∧ (∀ (X3 : Xp) (e : Expr) (i : T), cT n cc e = some i → SndT ca X M0 P X3 e i) ∧
  (∀ (tg e : Expr) (k : ItK) (es : Es), cI n cc e = some (k, es) → itOk k tg = true → SndI ca X M0 P tg e k es ∧ ∀ x, foldedSetIterable e X.env x = pure x) ∧ (∀ (ifs : List Expr) (i : T), cIf n cc ifs = some i → PTs X ifs (ttB (ct X ca) P i))
theorem allE : ∀ n, AllE n
  | 0 => fun ca X M0 P cc ok => ⟨fun X3 e i h => by simp [cE] at h, fun X3 e i h => by simp [cEs] at h, fun X3 e i h => by simp [cT] at h, fun tg e k es h => by simp [cI] at h, fun ifs i h => by simp [cIf] at h⟩
  | n + 1 => fun ca X M0 P cc ok => by
    obtain ⟨hE, hEs, hT, hI, hF⟩ := allE n ca X M0 P cc ok
    have hTA := (allE n ca X MAll P cc ok).2.2.1
    refine ⟨fun X3 e i h => ?_, fun X3 es i h => ?_, fun X3 e i h => ?_, fun tg e k es h hk => ?_, fun ifs i h => ?_⟩
    · unfold cE at h
      split at h
      · -- a name
        split at h
        · cases h; exact s_var ok (by assumption)
        · split at h
          · cases h; exact s_con ok (by assumption)
          · cases h
      · split at h
        · cases h; exact s_int
        · cases h; exact s_bl
        · cases h; exact s_str
        · cases h; exact s_non
        · cases h
      · split at h
        · rename_i h1 h2 h3
          cases h; exact s_bin h1 (hE _ _ _ h2) (hE _ _ _ h3)
        · cases h
      · split at h
        · rename_i h1
          cases h; exact s_not (hE _ _ _ h1)
        · cases h
      · split at h
        · rename_i h1
          cases h; exact s_un (hE _ _ _ h1)
        · cases h
      · obtain ⟨hm, h⟩ := if_none h
        split at h
        · rename_i h1 h2
          cases h; exact s_cmp ok hm (hE _ _ _ h1) (hE _ _ _ h2)
        · cases h
      · obtain ⟨hm, h⟩ := if_none h
        split at h
        · rename_i h1 h2 h3
          cases h; exact s_cmp2 ok hm (hE _ _ _ h1) (hE _ _ _ h2) (hE _ _ _ h3)
        · cases h
      · exact fun pins s σ H σ3 M Q I hw => BoolOp_one (hE _ _ _ h pins s σ H σ3 M Q I hw)
      · split at h
        · rename_i h1 h2
          cases h; exact s_and (hE _ _ _ h1) (hE _ _ _ h2)
        · cases h
      · split at h
        · rename_i h1 h2
          cases h; exact s_or (hE _ _ _ h1) (hE _ _ _ h2)
        · cases h
      · split at h
        · rename_i h1 h2 h3
          cases h; exact s_ite (hT _ _ _ h1) (hE _ _ _ h2) (hE _ _ _ h3)
        · cases h
      · split at h
        · rename_i h1
          cases h; exact s_tup (hEs _ _ _ h1)
        · cases h
      · split at h
        · rename_i h1
          cases h; exact s_lst (hEs _ _ _ h1)
        · cases h
      · obtain ⟨hm, h⟩ := if_some h
        split at h
        · rename_i h1 h2
          cases h; exact s_ix ok hm (hE _ _ _ h1) (hE _ _ _ h2)
        · cases h
      · cases h; exact s_dnew
      · obtain ⟨hm, h⟩ := if_some h
        split at h
        · rename_i h1
          cases h; exact s_fld ok hm (hE _ _ _ h1)
        · cases h
      · -- a dict comprehension
        obtain ⟨hm, h⟩ := if_some h
        split at h
        · rename_i h1 h2 h3 h4 h5
          split at h
          · rename_i hk
            cases h
            rw [ok.N, ok.sc] at hm
            obtain ⟨i1, i2⟩ := hI _ _ _ _ h1 (Bool.and_eq_true_iff.mp hk).1
            rw [ok.N]
            rw [Bool.and_eq_true] at hk
            rw [ok.N] at hk
            have hk2 := List.all_eq_true.mp hk.2
            refine s_dcomp (ownC X.N _) ok (blk_ok hm) (fun i hi => by simpa using hk2 i hi) i1 i2 (fun s H C cl fp => cTg_ok (ok_blk ok s H C cl fp) h2) (fun s H C cl fp => (allE n ca _ MAll P _ (ok_blk ok s H C cl fp)).2.2.2.2 _ _ h3) (fun s H C cl fp => (allE n ca _ MAll P _ (ok_blk ok s H C cl fp)).1 _ _ _ h4) (fun s H C cl fp => (allE n ca _ MAll P _ (ok_blk ok s H C cl fp)).1 _ _ _ h5)
          · cases h
        · cases h
      · -- a call by name
        split at h
        · rename_i f p es pos _ _ i' es' h1 h2
          cases h
          cases es with
          | nil => rw [cEs_nil h2]; exact s_call0 ok h1
          | cons e es => exact s_call ok h1 (cEs_plain h2) (hEs _ _ _ h2)
        · rename_i f p es pos _ _ c' i' es' h1 h2
          cases h
          cases es with
          | nil => rw [cEs_nil h2]; exact s_make0 ok h1
          | cons e es => exact s_make ok h1 (cEs_plain h2) (hEs _ _ _ h2)
        · rename_i f p es pos _ _ es' h1 h2
          split at h
          · rename_i b hb
            cases es with
            | nil => cases h
            | cons e es => cases h; exact s_blt ok h1 hb (cEs_plain h2) (hEs _ _ _ h2)
          · cases h
        · cases h
      · -- a method of a name's value
        split at h
        · rename_i hm
          rw [Bool.and_eq_true, Bool.and_eq_true] at hm
          obtain ⟨⟨hm1, hm2⟩, hm3⟩ := hm
          have hm1 := eq_of_beq hm1
          have hm3 := of_decide_eq_true hm3
          subst hm1
          split at h
          · rename_i h1 h2
            cases h
            exact s_cidx1 hm3 ok h1 hm2 (cEs_plain h2) (hEs _ _ _ h2)
          · rename_i h1 h2
            cases h
            exact s_mth (mm := .index) rfl rfl hm2 (by omega) (cEs_plain h2) (fun e => by subst e; cases hm3) (s_con ok h1) (hEs _ _ _ h2)
          · cases h
        · split at h
          · rename_i h1 h2 h3
            obtain ⟨hm, h⟩ := if_some h
            rw [Bool.and_eq_true] at hm
            cases h
            exact s_mth h1 rfl hm.1 (of_decide_eq_true hm.2) (cEs_plain h3) (fun e => by subst e; exact cEs_nil h3) (hE _ _ _ h2) (hEs _ _ _ h3)
          · rename_i h1 h2 h3
            obtain ⟨hm, h⟩ := if_some h
            rw [Bool.and_eq_true] at hm
            split at h
            · rename_i h4
              cases h
              exact s_umth ok h4 rfl hm.1 (of_decide_eq_true hm.2) (cEs_plain h3) (fun e => by subst e; exact cEs_nil h3) (hE _ _ _ h2) (hEs _ _ _ h3)
            · cases h
          · cases h
      · -- a method
        obtain ⟨hm, h⟩ := if_some h
        rw [Bool.and_eq_true, Bool.and_eq_true] at hm
        split at h
        · rename_i h1 h2 h3
          cases h
          exact s_mth h1 hm.1.1 hm.1.2 (of_decide_eq_true hm.2) (cEs_plain h3) (fun e => by subst e; exact cEs_nil h3) (hE _ _ _ h2) (hEs _ _ _ h3)
        · rename_i h1 h2 h3
          split at h
          · rename_i h4
            cases h
            exact s_umth ok h4 hm.1.1 hm.1.2 (of_decide_eq_true hm.2) (cEs_plain h3) (fun e => by subst e; exact cEs_nil h3) (hE _ _ _ h2) (hEs _ _ _ h3)
          · cases h
        · cases h
      · cases h
    · unfold cEs at h
      split at h
      · rename_i e; cases e
      · cases h; exact s_nil
      · rename_i e1
        cases e1
        obtain ⟨hm, h⟩ := if_some h
        split at h
        · rename_i h1 h2
          cases h; exact s_cons hm (hE _ _ _ h1) (hEs _ _ _ h2)
        · cases h
    · unfold cT at h
      split at h
      · exact t_one (hT _ _ _ h)
      · split at h
        · rename_i h1 h2
          cases h; exact t_and (hT _ _ _ h1) (hT _ _ _ h2)
        · cases h
      · split at h
        · rename_i h1 h2
          cases h; exact t_or (hT _ _ _ h1) (hT _ _ _ h2)
        · cases h
      · split at h
        · rename_i h1
          cases h; exact t_not (hT _ _ _ h1)
        · cases h
      · obtain ⟨hm, h⟩ := if_none h
        split at h
        · rename_i h1 h2
          cases h; exact s_cmpT ok hm (hE _ _ _ h1) (hE _ _ _ h2)
        · cases h
      · obtain ⟨hm, h⟩ := if_none h
        split at h
        · rename_i h1 h2 h3
          cases h; exact s_cmp2T ok hm (hE _ _ _ h1) (hE _ _ _ h2) (hE _ _ _ h3)
        · cases h
      · obtain ⟨hm, h⟩ := if_some h
        split at h
        · rename_i h1
          cases h; exact t_val hm (hE _ _ _ h1)
        · cases h
    · -- what is walked
      unfold cI at h
      split at h
      · obtain ⟨hm, hx⟩ := if_some h
        clear h
        rw [Bool.and_eq_true, Bool.and_eq_true] at hm
        obtain ⟨⟨hm1, hm2⟩, hm3⟩ := hm
        have hm1 := eq_of_beq hm1
        subst hm1
        have two : ∀ {o : Expr} {q : Option (ItK × Es)}, (match cE n cc o with | some o' => some (ItK.items, Es.cons o' .nil) | none => none) = some (k, es) → ∃ o', cE n cc o = some o' ∧ k = .items ∧ es = .cons o' .nil := fun {o q} z => by
          cases e1 : cE n cc o with
          | none => rw [e1] at z; cases z
          | some o' => rw [e1] at z; cases z; exact ⟨o', rfl, rfl, rfl⟩
        obtain ⟨o', h1, rfl, rfl⟩ := two (q := none) hx
        refine ⟨?_, fun _ => rfl⟩
        cases tg with
        | Tuple a b c => exact i_items hm2 hm3 fun X3 => hE X3 _ _ h1
        | _ => cases hk
      · refine ⟨?_, fun _ => rfl⟩
        split at h
        · rename_i h1 h2
          obtain ⟨hg, hl, _, _⟩ := glob_ok ok h1
          split at h
          · rename_i hf
            have hf : _ = ("range" : Str) := eq_of_beq hf
            subst hf
            split at h
            · cases h
              obtain ⟨ie, rfl⟩ := cEs_one h2
              exact i_range1 hg (ok.g.blt _ hl) (cEs_plain h2 _ (by simp)) fun X3 => hEs X3 _ _ h2
            · cases h
              obtain ⟨ie, ie2, rfl⟩ := cEs_two h2
              exact i_range2 hg (ok.g.blt _ hl) (cEs_plain h2 _ (by simp)) (cEs_plain h2 _ (by simp)) fun X3 => hEs X3 _ _ h2
            · cases h
          · split at h
            · rename_i hf
              have hf : _ = ("reversed" : Str) := eq_of_beq hf
              subst hf
              split at h
              · cases h
                obtain ⟨ie, rfl⟩ := cEs_one h2
                exact i_rev hg (ok.g.blt _ hl) (cEs_plain h2 _ (by simp)) fun X3 => hEs X3 _ _ h2
              · cases h
            · cases h
        · rename_i f p es pos _ _ i' es' h1 h2
          cases h
          refine i_plain fun X3 => ?_
          cases es with
          | nil => rw [cEs_nil h2]; exact s_call0 ok h1
          | cons e es => exact s_call ok h1 (cEs_plain h2) (hEs X3 _ _ h2)
        · cases h
      · split at h
        · rename_i h1
          obtain ⟨hs, h⟩ := if_some h
          cases h
          refine ⟨i_plain fun X3 => hE X3 _ _ h1, fun x => ?_⟩
          cases e <;> first | rfl | cases hs
        · cases h
    · -- the tests
      unfold cIf at h
      split at h
      · rename_i e; cases e
      · cases h; exact pts_B0
      · rename_i e1
        cases e1
        exact pts_one (pt_B (hTA _ _ _ h))
      · cases h
end L3
end
section
set_option autoImplicit false
set_option linter.all false
set_option maxRecDepth 100000
/-! L3: statements -/
namespace L3
open PySem L2 PyProof.Rows

/-- a statement has come to its end -/
def SP3 (C : Ct) (X : Cx) (M0 : Mp) (pins : List (Addr × Obj)) (Hb : Hp) (K : Ends) (f : Flow) (s' : Shared) : Prop := match f with
  | .next => ∃ σ3 M σ H, I3 C X M0 pins σ3 M σ H s' ∧ TupK Hb H ∧ K.nx σ3 M
  | .brk => ∃ σ3 M σ H, I3 C X M0 pins σ3 M σ H s' ∧ TupK Hb H ∧ K.bk σ3 M
  | .cont => ∃ σ3 M σ H, I3 C X M0 pins σ3 M σ H s' ∧ TupK Hb H ∧ K.ct σ3 M
  | .ret u => ∃ d v σ3 M σ H, I3 C X M0 pins σ3 M σ H s' ∧ TupK Hb H ∧ RelV v u ∧ RD C H d v ∧ K.rt d M
theorem SP3.from {C : Ct} {X : Cx} {M0 : Mp} {pins : List (Addr × Obj)} {Ha Hb : Hp} {K : Ends} {f : Flow} {s' : Shared} (k : TupK Ha Hb) (h : SP3 C X M0 pins Hb K f s') : SP3 C X M0 pins Ha K f s' := by
  cases f with
  | next => obtain ⟨a, b, c, d, I, k2, q⟩ := h; exact ⟨a, b, c, d, I, k.trans k2, q⟩
  | brk => obtain ⟨a, b, c, d, I, k2, q⟩ := h; exact ⟨a, b, c, d, I, k.trans k2, q⟩
  | cont => obtain ⟨a, b, c, d, I, k2, q⟩ := h; exact ⟨a, b, c, d, I, k.trans k2, q⟩
  | ret u => obtain ⟨x, v, a, b, c, d, I, k2, q⟩ := h; exact ⟨x, v, a, b, c, d, I, k.trans k2, q⟩
abbrev Xs := D → Lo → Mp → Prop
def SndS (ca : Nat → Addr) (X : Cx) (M0 : Mp) (P : Pr) (st : Stmt) (i : S) : Prop :=
  ∀ (X3 : Xs) (pins : List (Addr × Obj)) (s : Shared) (σ : L2.St) (H : Hp) (σ3 : Lo) (M : Mp) (K : Ends), I3 (ct X ca) X M0 pins σ3 M σ H s → wpS P i X3 K σ3 M →
    wpAny (model X.prog X.w) X.A (exec st X.env) (SP3 (ct X ca) X M0 pins H K) X.xe s
def SndSs (ca : Nat → Addr) (X : Cx) (M0 : Mp) (P : Pr) (st : List Stmt) (i : Ss) : Prop :=
  ∀ (X3 : Xs) (pins : List (Addr × Obj)) (s : Shared) (σ : L2.St) (H : Hp) (σ3 : Lo) (M : Mp) (K : Ends), I3 (ct X ca) X M0 pins σ3 M σ H s → wpSs P i X3 K σ3 M →
    wpAny (model X.prog X.w) X.A (execs st X.env) (SP3 (ct X ca) X M0 pins H K) X.xe s

section
variable {ca : Nat → Addr} {X : Cx} {M0 M : Mp} {pins : List (Addr × Obj)} {σ3 : Lo} {σ : L2.St} {H : Hp} {s : Shared} {P : Pr} {cc : CC}
theorem swaps_ok {e : Expr} {t : Option Expr} {n : Nat} {env : Env} (h : noComp e = true) : swapsWith e t n env = pure false := by
  unfold swapsWith
  cases e <;> first | rfl | cases h
theorem sole_ok {e t : Expr} {n : Nat} {env : Env} (h : noComp e = true) : swapsWithSole [t] e n env = pure false := by
  unfold swapsWithSole
  exact swaps_ok h
theorem st_expr {e : Expr} {pos : Pos} {ie : E} (hn : noComp e = true) (h : SndEx ca X M0 P e ie) : SndS ca X M0 P (.Expr e pos) (.expr ie) := by
  intro X3 pins s σ H σ3 M K I hw
  exact wpAny_Expr_any (thn (h _ pins s σ H σ3 M _ I hw) fun v s1 ⟨d, M1, v1, H1, I1, r, rd, st, q⟩ => ⟨σ3, M1, σ, H1, I1, st.tupK I.hp, q⟩) I.inv.quiet (swaps_ok hn)
theorem st_ret {e : Expr} {pos : Pos} {ie : E} (h : SndEx ca X M0 P e ie) : SndS ca X M0 P (.Return (some e) pos) (.ret ie) := by
  intro X3 pins s σ H σ3 M K I hw
  exact wpAny_Return_some (thn (h _ pins s σ H σ3 M _ I hw) fun v s1 ⟨d, M1, v1, H1, I1, r, rd, st, q⟩ => ⟨d, v1, σ3, M1, σ, H1, I1, st.tupK I.hp, r, rd, q⟩)
theorem st_set {e : Expr} {x : Str} {pos pos' : Pos} {ie : E} {i : Nat} (ok : Ok3 ca X P cc) (hi : cc.slotW x = some i) (hn : noComp e = true) (h : SndEx ca X M0 P e ie) : SndS ca X M0 P (.Assign [.Name x pos'] e pos) (.set (.one i) ie) := by
  intro X3 pins s σ H σ3 M K I hw
  obtain ⟨h1, h2, h3⟩ := slotW_ok ok hi
  refine wpAny_Assign_Name (thn (h _ pins s σ H σ3 M _ I hw) fun v s1 ⟨d, M1, v1, H1, I1, r, rd, st, q⟩ => ?_) (swaps_ok hn)
  exact store_ok I1.inv ok.nd h1 h2 r (fun s2 J => ⟨_, M1, _, H1, I1.store rd J, st.tupK I.hp, q⟩) h3
theorem st_setT {e : Expr} {ts : List Expr} {kk : Nat} {pos pos' : Pos} {ie : E} {t : Tg} (ht : SndTg ca X M0 (.Tuple ts kk pos') t) (hn : (noComp e && !isTupE e) = true) (h : SndEx ca X M0 P e ie) : SndS ca X M0 P (.Assign [.Tuple ts kk pos'] e pos) (.set t ie) := by
  intro X3 pins s σ H σ3 M K I hw
  rw [Bool.and_eq_true] at hn
  have hsw : swappedStores [.Tuple ts kk pos'] e X.env = pure none := by
    unfold swappedStores
    cases e <;> first | rfl | cases hn.2
  have h1 : (assignEach [.Tuple ts kk pos'] X.env).map (·.2) = [assign (.Tuple ts kk pos') X.env] := rfl
  refine wpAny_Assign_stores (thn (h _ pins s σ H σ3 M _ I hw) fun v s1 ⟨d, M1, v1, H1, I1, r, rd, st, q⟩ => ?_) (sole_ok hn.1) hsw
  rw [h1]
  show wpAny _ _ (assign (.Tuple ts kk pos') X.env v) _ _ _
  exact thn (ht pins s1 σ H1 σ3 M1 d v1 v _ I1 r rd q) fun _ s2 ⟨σ3', σ', J, _, q⟩ => ⟨σ3', M1, σ', H1, J, st.tupK I.hp, q⟩
theorem swaps_attr {e o : Expr} {f : Str} {p : Pos} {n : Nat} {env : Env} : swapsWith e (some (.Attribute o f p)) n env = pure false := by
  unfold swapsWith
  cases e <;> rfl
theorem st_setFld {o e : Expr} {f : Str} {pos pos' : Pos} {io ie : E} (ok : Ok3 ca X P cc) (hn : noSuper o = true) (ho : SndEx ca X M0 P o io) (h : SndEx ca X M0 P e ie) : SndS ca X M0 P (.Assign [.Attribute o f pos'] e pos) (.setFld io f ie) := by
  intro X3 pins s σ H σ3 M K I hw
  refine plainObj_wpAny_Assign_Attribute (thn (h _ pins s σ H σ3 M _ I hw) fun v s1 ⟨d, M1, v1, H1, I1, r, rd, st, q⟩ => thn (ho _ pins s1 σ H1 σ3 M1 _ I1 q) fun ov s2 ⟨x, M2, xv, H2, I2, r2, rd2, st2, q2⟩ => ?_) swaps_attr
  exact thn (o_setFld ok I2 r2 r rd2 (rd.keep (st2.tupK I1.hp)) q2) fun _ s3 ⟨M3, H3, I3', k3, q3⟩ => ⟨σ3, M3, σ, H3, I3', ((st.tupK I.hp).trans (st2.tupK I1.hp)).trans k3, q3⟩
theorem st_augFld {a e : Expr} {f : Str} {pos pos' : Pos} {o : Operator} {o' : BOp} {ia ie : E} (ok : Ok3 ca X P cc) (hop : cBop o = some o') (ha : SndEx ca X M0 P a ia) (h : SndEx ca X M0 P e ie) : SndS ca X M0 P (.AugAssign (.Attribute a f pos') o e pos) (.augFld ia f o' ie) := by
  intro X3 pins s σ H σ3 M K I hw
  have eo : o = bop o' := by
    cases o <;> cases o' <;> first | rfl | cases hop
  subst eo
  refine wpAny_AugAssign_AttributeAny (thn (ha _ pins s σ H σ3 M _ I hw) fun ov s1 ⟨x, M1, xv, H1, I1, r1, rd1, st1, q1⟩ => ?_)
  refine thn (o_fld ok I1 r1 rd1 q1) fun w s2 ⟨d, M2, dv, H2, I2, r2, rd2, st2, q2⟩ => ?_
  refine thn (h _ pins s2 σ H2 σ3 M2 _ I2 q2) fun u s3 ⟨y, M3, yv, H3, I3', r3, rd3, st3, q3⟩ => ?_
  refine thn (o_inp o' (ca := ca) pins s3 σ H3 M0 M3 σ3 d y dv yv w u _ I3' r2 r3 (rd2.keep (st3.tupK I2.hp)) rd3 q3) fun z s4 ⟨zd, M4, zv, H4, I4, r4, rd4, st4, q4⟩ => ?_
  exact thn (o_setFld ok I4 r1 r4 (((rd1.keep (st2.tupK I1.hp)).keep (st3.tupK I2.hp)).keep (st4.tupK I3'.hp)) rd4 q4) fun _ s5 ⟨M5, H5, I5, k5, q5⟩ => ⟨σ3, M5, σ, H5, I5, ((((st1.tupK I.hp).trans (st2.tupK I1.hp)).trans (st3.tupK I2.hp)).trans (st4.tupK I3'.hp)).trans k5, q5⟩
theorem assign_sub {o i : Expr} {pos : Pos} {env : Env} (h : notSlice i = true) (v : Value) : assign (.Subscript o i pos) env v = (do
    let ov ← holding [v] (eval o env)
    let iv ← holding [v, ov] (eval i env)
    standAt pos
    holding [v, ov, iv] (setItem ov iv v)
    release [v, ov, iv] []) := by
  cases i <;> first | rfl | cases h
theorem o_setIx (hu : X.A.units + 1 < cLine) {x y z : D} {a b c : V} {v u w : Value} {k : Mp → Prop} (I : I3 (ct X ca) X M0 pins σ3 M σ H s) (ra : RelV a v) (rb : RelV b u) (rc : RelV c w) (hx : RD (ct X ca) H x a) (hy : RD (ct X ca) H y b) (hz : RD (ct X ca) H z c) (h : wpSetIx x y z M k) :
    wpAny (model X.prog X.w) X.A (setItem v u w) (fun _ s' => ∃ M' H', I3 (ct X ca) X M0 pins σ3 M' σ H' s' ∧ TupK H H' ∧ k M') X.xe s := by
  cases x with
  | ref p =>
    have e : a = .ref p := hx; subst e
    cases g : M p with
    | none => simp only [wpSetIx, g] at h
    | some o =>
      cases o with
      | lst ds => cases y with
        | int i =>
          simp only [wpSetIx, g] at h
          obtain ⟨⟨h0, h1⟩, q⟩ := h
          obtain ⟨xs, hxs, rs⟩ := I.hp.lst g
          have hl := rs.length
          refine thn (set_list pins s σ H (.ref p) b c v u w (fun H' => H' = upd H p (.lst (xs.set i.toNat c))) I.inv ra rb rc ⟨p, xs, i, i.toNat, rfl, hy, hxs, ?_, rfl⟩) fun _ s' ⟨H', J, e⟩ => ?_
          · unfold ixN
            rw [if_pos h0, if_pos (by omega)]
          · subst e
            exact ⟨_, _, I.to J (I.hp.write (m' := .lst (ds.set i.toNat z)) g (RDs.keep (I.hp.tupKw g) (RDs.set i.toNat rs hz))) (write_stp I.hp g), I.hp.tupKw g, q⟩
        | _ => simp only [wpSetIx, g] at h
      | dct kvs =>
        simp only [wpSetIx, g] at h
        obtain ⟨⟨hk, hl⟩, q⟩ := h
        obtain ⟨ks, hH, pd, ty⟩ := I.dictAt g
        obtain ⟨kk, rfl, kr⟩ := key_rd hy hk
        cases ra
        have kw : TupK H (upd H p (.dK (putK ks kk c))) := I.hp.tupKw g
        exact d_setItem hu I.inv (DPut.k hH (by rw [← pd.len]; exact hl)) rb rc fun s' J => ⟨_, _, I.to J (I.hp.write (m' := .dct (dput kvs y z)) g ⟨putK ks kk c, rfl, PD.keep kw (pd_put kr hz pd)⟩) (write_stp I.hp g), kw, q⟩
      | _ => simp only [wpSetIx, g] at h
  | _ => exact h.elim
theorem st_setIx {a b e : Expr} {pos pos' : Pos} {ia ib ie : E} (ok : Ok3 ca X P cc) (hs : notSlice b = true) (hn : noComp e = true) (ha : SndEx ca X M0 P a ia) (hb : SndEx ca X M0 P b ib) (h : SndEx ca X M0 P e ie) : SndS ca X M0 P (.Assign [.Subscript a b pos'] e pos) (.setIx ia ib ie) := by
  intro X3 pins s σ H σ3 M K I hw
  have h1 : (assignEach [.Subscript a b pos'] X.env).map (·.2) = [assign (.Subscript a b pos') X.env] := rfl
  refine wpAny_Assign_stores (thn (h _ pins s σ H σ3 M _ I hw) fun v s1 ⟨d, M1, v1, H1, I1, r, rd, st, q⟩ => ?_) (sole_ok hn) rfl
  rw [h1]
  refine thn (Q := fun _ s' => ∃ M' H', I3 (ct X ca) X M0 pins σ3 M' σ H' s' ∧ TupK H H' ∧ K.nx σ3 M') ?_ fun _ s' ⟨M', H', J, q⟩ => ⟨σ3, M', σ, H', J, q⟩
  show wpAny _ _ (assign (.Subscript a b pos') X.env v) _ _ _
  rw [assign_sub hs]
  refine wpAny_bind (wpAny_holding (thn (ha _ pins s1 σ H1 σ3 M1 _ I1 q) fun ov s2 ⟨x, M2, xv, H2, I2, r2, rd2, st2, q2⟩ => ?_))
  refine wpAny_bind (wpAny_holding (thn (hb _ pins s2 σ H2 σ3 M2 _ I2 q2) fun iv s3 ⟨y, M3, yv, H3, I3', r3, rd3, st3, q3⟩ => ?_))
  refine wpAny_bind (wpAny_standAt (wpAny_bind (wpAny_holding (thn (o_setIx (by have := ok.hu; omega) I3' r2 r3 r (rd2.keep (st3.tupK I2.hp)) rd3 ((rd.keep (st2.tupK I1.hp)).keep (st3.tupK I2.hp)) q3) fun _ s4 ⟨M4, H4, I4, k4, q4⟩ => ?_))))
  exact wpAny_release ⟨M4, H4, I4, (((st.tupK I.hp).trans (st2.tupK I1.hp)).trans (st3.tupK I2.hp)).trans k4, q4⟩
theorem st_aug {x : Str} {e : Expr} {pos pos' : Pos} {i : Nat} {o : Operator} {o' : BOp} {ie : E} (ok : Ok3 ca X P cc) (hi : cc.slotW x = some i) (ho : cBop o = some o') (h : SndEx ca X M0 P e ie) : SndS ca X M0 P (.AugAssign (.Name x pos') o e pos) (.aug i o' ie) := by
  intro X3 pins s σ H σ3 M K I hw
  obtain ⟨h1, h2, h3⟩ := slotW_ok ok hi
  have eo : o = bop o' := by
    cases o <;> cases o' <;> first | rfl | cases ho
  subst eo
  obtain ⟨d, e1, hw⟩ := hw
  obtain ⟨v, ev, rd⟩ := I.lo.2 i d e1
  obtain ⟨m, hn, hl⟩ := I.inv.loc
  have vis : Vis X.env.scope x := by rcases h2 with k | k; exact .inl k; exact .inr (.inl k)
  obtain ⟨u, r, l⟩ := hl i x v h1 ev vis
  refine wpAny_AugAssign_Name ?_
  have go : wpAny (model X.prog X.w) X.A (eval e X.env) (fun w s₂ => wpAny (model X.prog X.w) X.A (inplaceOp (bop o') u w) (fun r s₃ => wpAny (model X.prog X.w) X.A (storeName X.env x r) (fun _ => SP3 (ct X ca) X M0 pins H K .next) X.xe s₃) X.xe s₂) X.xe s := by
    refine thn (h _ pins s σ H σ3 M _ I hw) fun w s1 ⟨y, M1, yv, H1, I1, r1, rd1, st1, q1⟩ => ?_
    refine thn (o_inp o' (ca := ca) pins s1 σ H1 M0 M1 σ3 d y v yv u w _ I1 r r1 (rd.keep (st1.tupK I.hp)) rd1 q1) fun z s2 ⟨zd, M2, zv, H2, I2, r2, rd2, st2, q2⟩ => ?_
    exact store_ok I2.inv ok.nd h1 h2 r2 (fun s3 J => ⟨_, M2, _, H2, I2.store rd2 J, (st1.tupK I.hp).trans (st2.tupK I1.hp), q2⟩) h3
  rcases l with ⟨hk, hm⟩ | ⟨hk, c, hc, hcell⟩
  · exact wpAny_loadName_local I.inv.ok.kind hk hn hm go
  · rcases hk with hk | hk
    · exact wpAny_loadName_cell I.inv.ok.kind hk hc hcell go
    · have hf : X.env.scope.names.lookup x = some .free := hk
      rcases h2 with k | k <;> (rw [k] at hf; cases hf)
theorem st_if {c : Expr} {a b : List Stmt} {pos : Pos} {ic : T} {ia ib : Ss} (hc : SndTx ca X M0 P c ic) (ha : SndSs ca X M0 P a ia) (hb : SndSs ca X M0 P b ib) : SndS ca X M0 P (.If c a b pos) (.ite ic ia ib) := by
  intro X3 pins s σ H σ3 M K I hw
  refine wpAny_If (thn (hc _ _ pins s σ H σ3 M _ (.inl rfl) I hw) fun d s1 ⟨M1, H1, I1, st, q⟩ => ?_)
  cases d with
  | true => exact thn (ha X3 pins s1 σ H1 σ3 M1 K I1 q) fun _ _ e => e.from (st.tupK I.hp)
  | false => exact thn (hb X3 pins s1 σ H1 σ3 M1 K I1 q) fun _ _ e => e.from (st.tupK I.hp)
theorem st_bad {st : Stmt} : SndS ca X M0 P st .bad := fun X3 pins s σ H σ3 M K I hw => False.elim hw
theorem st_pass {pos : Pos} : SndS ca X M0 P (.Pass pos) .pass := fun X3 pins s σ H σ3 M K I hw => wpAny_Pass ⟨σ3, M, σ, H, I, TupK.refl, hw⟩
theorem st_brk {pos : Pos} : SndS ca X M0 P (.Break pos) .brk := fun X3 pins s σ H σ3 M K I hw => wpAny_Break ⟨σ3, M, σ, H, I, TupK.refl, hw⟩
theorem st_cnt {pos : Pos} : SndS ca X M0 P (.Continue pos) .cnt := fun X3 pins s σ H σ3 M K I hw => wpAny_Continue ⟨σ3, M, σ, H, I, TupK.refl, hw⟩
theorem sts_nil : SndSs ca X M0 P [] .nil := fun X3 pins s σ H σ3 M K I hw => wpAny_execs_nil ⟨σ3, M, σ, H, I, TupK.refl, hw⟩
theorem sts_cons {a : Stmt} {l : List Stmt} {ia : S} {il : Ss} (ha : SndS ca X M0 P a ia) (hl : SndSs ca X M0 P l il) : SndSs ca X M0 P (a :: l) (.cons ia il) := by
  intro X3 pins s σ H σ3 M K I hw
  refine wpAny_execs_cons (thn (ha X3 pins s σ H σ3 M _ I hw) fun f s1 q => ?_)
  cases f with
  | next =>
    obtain ⟨σ', M', σ2, H', I', k, q⟩ := q
    exact thn (hl X3 pins s1 σ2 H' σ' M' K I' q) fun _ _ e => e.from k
  | ret v => exact q
  | brk => exact q
  | cont => exact q
theorem st_wh {c : Expr} {b : List Stmt} {pos : Pos} {ic : T} {ib : Ss} (hp : PassesOwn (model X.prog X.w) X.A X.env X.xe) (hc : SndTx ca X M0 P c ic) (hb : SndSs ca X M0 P b ib) : SndS ca X M0 P (.While c b [] pos) (.wh ic ib) := by
  intro X3 pins s σ H σ3 M K I hw
  obtain ⟨n0, w0⟩ := hw
  refine wpAny_While (codeAny_whileLoop (fun n s' => ∃ σ3' M' σ' H', I3 (ct X ca) X M0 pins σ3' M' σ' H' s' ∧ TupK H H' ∧ whL (fun σ M k => wpT P (fun x M => X3 x σ M) ic σ M k) (fun D σ M => wpSs P ib X3 D σ M) K n σ3' M') ?_ n0 ⟨σ3, M, σ, H, I, TupK.refl, w0⟩)
  rintro n s1 ⟨σ3', M', σ', H', I', k0, w⟩
  cases n with
  | zero => exact False.elim w
  | succ n =>
    refine wpAny_passesOwn hp (thn (hc _ _ pins s1 σ' H' σ3' M' _ (.inl rfl) I' w) fun d s2 ⟨M2, H2, I2, st, q⟩ => ?_)
    have k2 := k0.trans (st.tupK I'.hp)
    cases d with
    | true =>
      rw [if_pos rfl]
      refine wpAny_passesOwn hp (thn (hb X3 pins s2 σ' H2 σ3' M2 _ I2 q) fun f s3 q3 => ?_)
      cases f with
      | next =>
        obtain ⟨σ4, M4, σ5, H4, I4, k4, q4⟩ := q3
        exact ⟨n, Nat.lt_succ_self n, σ4, M4, σ5, H4, I4, k2.trans k4, q4⟩
      | cont =>
        obtain ⟨σ4, M4, σ5, H4, I4, k4, q4⟩ := q3
        exact ⟨n, Nat.lt_succ_self n, σ4, M4, σ5, H4, I4, k2.trans k4, q4⟩
      | brk => obtain ⟨σ4, M4, σ5, H4, I4, k4, q4⟩ := q3; exact ⟨σ4, M4, σ5, H4, I4, k2.trans k4, q4⟩
      | ret v => exact q3.from k2
    | false =>
      rw [if_neg Bool.false_ne_true]
      exact wpAny_execs_nil ⟨σ3', M2, σ', H2, I2, k2, q⟩
end
end L3
end
section
set_option autoImplicit false
set_option linter.all false
set_option maxRecDepth 100000
/-! L3: the for loop -/
namespace L3
open PySem L2 PyProof.Rows
section
variable {ca : Nat → Addr} {X : Cx} {M0 M : Mp} {pins : List (Addr × Obj)} {σ3 : Lo} {σ : L2.St} {H : Hp} {s : Shared} {P : Pr} {cc : CC}
/-! ### for -/
theorem st_for {tg e : Expr} {b : List Stmt} {pos : Pos} {t : Tg} {k : ItK} {es : Es} {ib : Ss} (hp : PassesOwn (model X.prog X.w) X.A X.env X.xe) (hc : X.calm = true) (hs : ∀ x, foldedSetIterable e X.env x = pure x)
    (hi : SndI ca X M0 P tg e k es) (ht : SndTg ca X M0 tg t) (hb : SndSs ca X M0 P b ib) : SndS ca X M0 P (.For tg e b [] pos) (.for t k es ib) := by
  intro X3 pins s σ H σ3 M K I hw
  refine wpAny_For (thn (hi _ pins s σ H σ3 M _ I hw) fun v s1 h1 => thn h1 fun itv s2 h2 => ?_) hs
  obtain ⟨it, fp, tn, J, H2, M2, ds, G, fin, e, I2, T, st2, f2, sp2, hr, hf, w⟩ := h2
  subst e
  have stat : ∀ {H' : Hp}, (∀ b ∈ fp, H' b = none) → ∀ b ∈ fp, FpOk X pins H' b := fun hn b hb => ⟨hn b hb, (f2 b hb).2⟩
  have kH : TupK H H2 := sp2.tupK I.hp
  revert w
  generalize hE : (⟨fun σ M => K.nx σ (fin M), fun d M => K.rt d (fin M), fun σ M => K.nx σ (fin M), fun _ _ => False⟩ : Ends) = KE
  generalize hB : (fun (D : Ends) (σ : Lo) (M : Mp) => wpSs P ib (fun x σ M => X3 x σ (fin M)) D σ M) = B
  intro w
  -- the end of the loop
  have out : ∀ {σ3' : Lo} {M' : Mp} {σ' : L2.St} {H' : Hp} {s' : Shared}, I3 (ct X ca) X M0 pins σ3' M' σ' H' s' → TupK H H' → KE.nx σ3' M' → SP3 (ct X ca) X M0 pins H K .next s' := fun {σ3' M' σ' H' s'} I' k q => by
    subst hE
    obtain ⟨H'', I'', k', _⟩ := hf.2 _ _ _ _ _ _ _ I' k
    exact ⟨σ3', _, σ', H'', I'', k', q⟩
  have I3pin : ∀ {pl : List (Addr × Obj)} {σ3' : Lo} {M' : Mp} {σ' : L2.St} {H' : Hp} {s' : Shared}, I3 (ct X ca) X M0 (pins ++ pl) σ3' M' σ' H' s' → I3 (ct X ca) X M0 pins σ3' M' σ' H' s' := fun I' => ⟨I'.inv.unpinned, I'.lo, I'.hp, I'.st⟩
  refine codeAny_forLoop_any (fun n s' => ∃ i σ3' M' σ' H', n = ds.length - i ∧ i ≤ ds.length ∧ I3 (ct X ca) X M0 pins σ3' M' σ' H' s' ∧ tn i s'.heap ∧ (∀ b ∈ fp, H' b = none) ∧ TupK H2 H' ∧ forL t B G KE (ds.drop i) σ3' M') ?_ (ds.length - 0) ⟨0, σ3, M2, σ, H2, rfl, Nat.zero_le _, I2, st2, fun b hb => (f2 b hb).1, TupK.refl, w⟩
  rintro n s3 ⟨i, σ3', M3, σ', H3, en, hin, I3', st3, fr3, k3, w3⟩
  subst en
  by_cases hlt : i < ds.length
  · rw [List.drop_eq_getElem_cons hlt] at w3
    obtain ⟨g, w3⟩ := w3
    have r3 := (hr H3 M3 k3 I3'.hp g).1 i ds[i] (List.getElem?_eq_getElem hlt)
    refine wpAny_passesOwn hp (thn (T.item X rfl rfl rfl hc i pins s3 σ' H3 X.xe I3'.inv (stat fr3) st3 r3.1) fun r s4 ⟨u, hru, h4⟩ => ?_)
    subst hru
    refine wpAny_passesOwn hp (thn h4 fun _ s5 ⟨x, H5, J5, r5, y5, st5, fr5⟩ => ?_)
    obtain ⟨q1, q2, q3⟩ := r3.2 x H5 y5
    have I5 := I3'.to J5 q1 q2
    have k5 := q2.tupK I3'.hp
    have I5' : I3 (ct X ca) X M0 (pins ++ pinsAt fp s5.heap) σ3' M3 σ' H5 s5 := ⟨I5.inv.pinned (stat fr5) (T.obj _ _ st5), I5.lo, I5.hp, I5.st⟩
    refine wpAny_passesOwn hp (thn (ht _ s5 σ' H5 σ3' M3 _ x u _ I5' r5 q3 w3) fun _ s6 ⟨σ36, σ6, I6, _, q6⟩ => ?_)
    subst hB
    have k36 : TupK H2 H5 := k3.trans k5
    have body := hb _ _ s6 σ6 H5 σ36 M3 _ I6 q6
    refine wpAny_passesOwn hp (thn body fun f s7 q7 => ?_)
    have again : ∀ {σ37 : Lo} {M7 : Mp} {σ7 : L2.St} {H7 : Hp}, I3 (ct X ca) X M0 (pins ++ pinsAt fp s5.heap) σ37 M7 σ7 H7 s7 → TupK H2 H7 → forL t (fun (D : Ends) (σ : Lo) (M : Mp) => wpSs P ib (fun x σ M => X3 x σ (fin M)) D σ M) G KE (ds.drop (i + 1)) σ37 M7 →
        ∃ m, m < ds.length - i ∧ ∃ i' σ3' M' σ' H', m = ds.length - i' ∧ i' ≤ ds.length ∧ I3 (ct X ca) X M0 pins σ3' M' σ' H' s7 ∧ tn i' s7.heap ∧ (∀ b ∈ fp, H' b = none) ∧ TupK H2 H' ∧ forL t (fun (D : Ends) (σ : Lo) (M : Mp) => wpSs P ib (fun x σ M => X3 x σ (fin M)) D σ M) G KE (ds.drop i') σ3' M' := fun {σ37 M7 σ7 H7} I7 k7 w7 => by
      refine ⟨ds.length - (i + 1), by omega, i + 1, σ37, M7, σ7, H7, rfl, hlt, I3pin I7, T.keep _ _ _ st5 fun b hb o e => (I7.inv.pin (b, o) (List.mem_append_right _ (List.mem_append_right _ (mem_pinsAt hb e)))).1, fun b hb => ?_, k7, w7⟩
      obtain ⟨o, e, d⟩ := T.obj _ _ st5 b hb
      exact (I7.inv.pin (b, o) (List.mem_append_right _ (List.mem_append_right _ (mem_pinsAt hb e)))).2.1
    cases f with
    | next => obtain ⟨σ37, M7, σ7, H7, I7, k7, n7⟩ := q7; exact again I7 (k36.trans k7) n7
    | cont => obtain ⟨σ37, M7, σ7, H7, I7, k7, n7⟩ := q7; exact again I7 (k36.trans k7) n7
    | brk => obtain ⟨σ37, M7, σ7, H7, I7, k7, n7⟩ := q7; exact out (I3pin I7) (kH.trans (k36.trans k7)) n7
    | ret v =>
      obtain ⟨d, v7, σ37, M7, σ7, H7, I7, k7, r7, rd7, n7⟩ := q7
      subst hE
      obtain ⟨H'', I'', k'', kw, _⟩ := hf.2 _ _ _ _ _ _ _ (I3pin I7) (kH.trans (k36.trans k7))
      exact ⟨d, v7, σ37, _, σ7, H'', I'', k'', r7, rd7.keep0 kw, n7⟩
  · have ei : i = ds.length := by omega
    subst ei
    rw [List.drop_length] at w3
    obtain ⟨g, w3⟩ := w3
    have stop := (hr H3 M3 k3 I3'.hp g).2
    refine wpAny_passesOwn hp (thn (T.done X rfl rfl rfl hc _ pins s3 σ' H3 X.xe I3'.inv (stat fr3) st3 stop) fun r s4 ⟨hr4, I4⟩ => ?_)
    subst hr4
    exact wpAny_execs_nil (out (I3'.same I4) (kH.trans k3) w3)
end
end L3
end
section
set_option autoImplicit false
set_option linter.all false
set_option maxRecDepth 100000
/-! L3: every compiled statement is sound -/
namespace L3
open PySem L2 PyProof.Rows

def AllS (n : Nat) : Prop := ∀ (ca : Nat → Addr) (X : Cx) (M0 : Mp) (P : Pr) (cc : CC), Ok3 ca X P cc → PassesOwn (model X.prog X.w) X.A X.env X.xe →
  (∀ (e : Stmt) (i : S), cS n cc e = some i → SndS ca X M0 P e i) ∧ (∀ (es : List Stmt) (i : Ss), cSs n cc es = some i → SndSs ca X M0 P es i)
theorem allSt : ∀ n, AllS n
  | 0 => fun ca X M0 P cc ok hp => ⟨fun e i h => by simp [cS] at h, fun e i h => by simp [cSs] at h⟩
  | n + 1 => fun ca X M0 P cc ok hp => by
    obtain ⟨hS, hSs⟩ := allSt n ca X M0 P cc ok hp
    have hE : ∀ (e : Expr) (i : E), cE n cc e = some i → SndEx ca X M0 P e i := fun e i h X3 => (allE n ca X M0 P cc ok).1 X3 e i h
    have hD : ∀ st : Stmt, SndS ca X M0 P st ((cS n cc st).getD .bad) := fun st => by
      cases e2 : cS n cc st with
      | none => exact st_bad
      | some s' => exact hS _ _ e2
    have hT : ∀ (e : Expr) (i : T), cT n cc e = some i → SndTx ca X M0 P e i := fun e i h X3 => (allE n ca X M0 P cc ok).2.2.1 X3 e i h
    refine ⟨fun e i h => ?_, fun es i h => ?_⟩
    · unfold cS at h
      split at h
      · obtain ⟨hm, h⟩ := if_some h
        split at h
        · rename_i h1
          cases h; exact st_expr hm (hE _ _ h1)
        · cases h
      · split at h
        · rename_i h1
          cases h; exact st_ret (hE _ _ h1)
        · cases h
      · obtain ⟨hm, h⟩ := if_some h
        split at h
        · rename_i h1 h2
          cases h; exact st_set ok h1 hm (hE _ _ h2)
        · cases h
      · obtain ⟨hm, h⟩ := if_some h
        split at h
        · rename_i h1 h2
          cases h; exact st_setT (cTg_ok ok h1) hm (hE _ _ h2)
        · cases h
      · obtain ⟨hm, h⟩ := if_some h
        split at h
        · rename_i h1 h2
          cases h; exact st_setFld ok hm (hE _ _ h1) (hE _ _ h2)
        · cases h
      · split at h
        · rename_i h1 h2 h3
          cases h; exact st_augFld ok h2 (hE _ _ h1) (hE _ _ h3)
        · cases h
      · obtain ⟨hm, h⟩ := if_some h
        rw [Bool.and_eq_true] at hm
        split at h
        · rename_i h1 h2 h3
          cases h; exact st_setIx ok hm.1 hm.2 (hE _ _ h1) (hE _ _ h2) (hE _ _ h3)
        · cases h
      · split at h
        · rename_i h1 h2 h3
          cases h; exact st_aug ok h1 h2 (hE _ _ h3)
        · cases h
      · split at h
        · rename_i h1 h2 h3
          cases h; exact st_if (hT _ _ h1) (hSs _ _ h2) (hSs _ _ h3)
        · cases h
      · split at h
        · rename_i h1 h2
          cases h; exact st_wh hp (hT _ _ h1) (hSs _ _ h2)
        · cases h
      · split at h
        · rename_i h1 h2 h3
          obtain ⟨hk, h⟩ := if_some h
          cases h
          obtain ⟨i1, i2⟩ := (allE n ca X M0 P cc ok).2.2.2.1 _ _ _ _ h2 hk
          exact st_for hp ok.hc i2 i1 (cTg_ok ok h1) (hSs _ _ h3)
        · cases h
      · cases h; exact st_pass
      · cases h; exact st_brk
      · cases h; exact st_cnt
      · cases h
    · unfold cSs at h
      split at h
      · rename_i e; cases e
      · cases h; exact sts_nil
      · rename_i e1
        cases e1
        split at h
        · rename_i h2
          cases h
          exact sts_cons (hD _) (hSs _ _ h2)
        · cases h
end L3
end
section
set_option autoImplicit false
set_option linter.all false
set_option maxRecDepth 100000
/-! L3: a def by its body -/
namespace L3
open PySem L2 PyProof.Rows

/-- what the module's names stand for, up to the level k -/
structure GM (C : Ct) (mg : Str → Option Value) (base : Heap) (k : Nat) (P : Pr) (gl : List (Str × GR)) : Prop where
  fn : ∀ x i, gl.lookup x = some (.fn i) → ∃ j f fd ps, j ≤ k ∧ mg x = some (.ref f) ∧ PySem.W.keepIn C.K (.ref f) = true ∧ Binds C.K fd ps [] ∧ FnG C mg base j f fd ps (P.sp i)
  blt : ∀ x, gl.lookup x = some .blt → mg x = none
  cls : ∀ x c i, gl.lookup x = some (.cls c i) → ∃ j f fd ps, j + 1 ≤ k ∧ mg x = some (.ref (C.ca c)) ∧ Mk C.K (C.ca c) f ∧ Binds C.K fd ps [] ∧ FnG C mg base j f fd ps (P.sp i)
  mth : ∀ m c i, gl.lookup (dotted m) = some (.mth c i) → ∃ j f fd ps, j ≤ k ∧ Cls C.K (C.ca c) ∧ Meth C.K (C.ca c) m f ∧ Binds C.K fd ps [] ∧ FnG C mg base j f fd ps (P.sp i)
  fl : ∀ c f, P.fl c f = true → Cls C.K (C.ca c) ∧ NoAttr C.K (C.ca c) f
  con : ∀ x d, gl.lookup x = some (.con d) → ∃ u v, mg x = some u ∧ RelV v u ∧ (∀ H, RD C H d v) ∧ ∀ ds, d = .tup ds → ∃ a o, v = .ref a ∧ C.K.lookup a = some o ∧ o.cls = .type "tuple" ∧ o.dict = none
theorem GM.ok {ca : Nat → Addr} {X : Cx} {k : Nat} {P : Pr} {gl : List (Str × GR)} (g : GM (ct X ca) X.mg X.base k P gl) (r : Room k X.A) : GOk ca X P gl where
  fn := fun x i h => let ⟨j, f, fd, ps, hj, h1, h2, h3, h4⟩ := g.fn x i h; ⟨j, f, fd, ps, h1, h2, h3, r.mono hj, h4⟩
  cls := fun x c i h => let ⟨j, f, fd, ps, hj, h1, h2, h3, h4⟩ := g.cls x c i h; ⟨j, f, fd, ps, h1, h2, h3, r.mono hj, h4⟩
  mth := fun m c i h => let ⟨j, f, fd, ps, hj, h1, h2, h3, h4⟩ := g.mth m c i h; ⟨j, f, fd, ps, h1, h2, h3, r.mono hj, h4⟩
  fl := g.fl
  blt := g.blt
  con := g.con
section
variable {Pg : Program} {w : World} {K : PySem.W.Frag} {ca : Nat → Addr} {mg : Str → Option Value} {base : Heap}
theorem rl_start {C : Ct} {H : Hp} {N : List Str} {ds : List D} {vs : List V} (rd : RDs C H ds vs) : RL C H (startL N.length ds) (L2.start N vs) := by
  have hl := rd.length
  refine ⟨by simp [startL, L2.start, hl], fun i d e => ?_⟩
  unfold startL at e
  by_cases h : i < ds.length
  · rw [List.getElem?_append_left (by simpa using h), List.getElem?_map] at e
    cases g : ds[i]? with
    | none => rw [g] at e; cases e
    | some d' =>
      rw [g] at e
      have e' : d' = d := by simpa using e
      subst e'
      obtain ⟨v, e1, r1⟩ := rd.get g
      refine ⟨v, ?_, r1⟩
      unfold L2.start
      rw [List.getElem?_append_left (by rw [List.length_map, ← hl]; exact h), List.getElem?_map, e1]
      rfl
  · rw [List.getElem?_append_right (by simp; omega)] at e
    rw [List.getElem?_replicate] at e
    split at e <;> cases e
theorem fng_of {f : Addr} {fd : FuncData} {x qual : Str} {st : Stmt} {N ps : List Str} {k n : Nat} {sp : Spec} {P : Pr} {gl : List (Str × GR)} {ir : Ss} (F : C8.Fun K x qual st f fd) (S : FnScope N ps (C8.fnScope st))
    (hir : cSs n ⟨N, C8.fnScope st, gl, true⟩ (C8.fnBody st) = some ir) (sy : SysD K) (len : ∀ ds M Q X, sp ds M Q X → ds.length = ps.length) (hk : Keeps P sp N.length ir) (g : GM ⟨Pg, w, K, ca⟩ mg base k P gl) : FnG ⟨Pg, w, K, ca⟩ mg base (k + 1) f fd ps sp := by
  obtain ⟨oc, od, dV, kV, doc, pm, an, cdv, ct', osl, rfl, lk, hcd⟩ := F.ex
  refine ⟨len, fun A outer s H args us vs ds M Q X3 hr hg e0 hb r rd rm hsp => ?_⟩
  have hl : vs.length = ps.length := by rw [← rd.length]; exact len _ _ _ _ hsp
  have KX : K.In s.heap := e0.mod.kin.keeps fun b o e => (e0.bs b o e).1
  have lim : s.heap.NoLimit := e0.mod.nolimit.keeps fun b o e => (e0.bs b o e).1
  have hkind : ∀ y ∈ ps.zip us, (C8.fnScope st).names.lookup y.1 = some .local ∨ ((C8.fnScope st).names.lookup y.1 = some .cell ∧ ((cellsFrom (s.heap.objs.size + 1) (C8.fnScope st).names []).lookup y.1).isSome = true) := fun ⟨m, v⟩ hy => by
    rcases S.par m (List.of_mem_zip hy).1 with q | q
    · exact .inl q
    · exact .inr ⟨q, PySem.W.cellsFrom_some _ _ _ (.inl q)⟩
  refine codeAny_call_function hr.depth (KX _ _ lk) rfl S.co S.gen rfl (PySem.W.codeRec_of KX hcd) (hb _ _ _ _ ?_)
  refine wpAny_newFunctionEnv_cells S.kind hkind fun env he s1 x1 => ?_
  subst he
  refine ⟨lim.keeps x1.toInCall.keep, codeAny_func ?_⟩
  have I : Inv (cxOf C8.CX0 Pg w K mg base N qual (C8.fnScope st) f cdv A outer s H C8.E0) [] (L2.start N vs) H s1 := inv_start S hr.hd e0 hl r x1
  have I' : Inv (cxOf C8.CX0 Pg w K mg base N qual (C8.fnScope st) f cdv A outer s H C8.E0).nox [] (L2.start N vs) H s1 := I.wish _
  have rX : Room k (cxOf C8.CX0 Pg w K mg base N qual (C8.fnScope st) f cdv A outer s H C8.E0).nox.A := hr.deeper _
  have ok : Ok3 ca (cxOf C8.CX0 Pg w K mg base N qual (C8.fnScope st) f cdv A outer s H C8.E0).nox P ⟨N, C8.fnScope st, gl, true⟩ :=
    ⟨rfl, rfl, S.nd, GM.ok (X := (cxOf C8.CX0 Pg w K mg base N qual (C8.fnScope st) f cdv A outer s H C8.E0).nox) g rX, by have := rX.un; omega, hg, rfl, sy, fun _ _ _ => rfl⟩
  have snd := (allSt n ca _ M P _ ok PassesOwn.never).2 _ _ hir (fun x _ M => X3 x M) [] s1 (L2.start N vs) H (startL N.length ds) M ⟨fun _ M => Q .non M, Q, fun _ _ => False, fun _ _ => False⟩ ⟨I', rl_start rd, rm, Stp.refl⟩ (hk ds M Q X3 hsp)
  refine wpAny_mono snd (fun fl s' hs => ?_) fun e s' hs => False.elim hs
  have fin : ∀ {σ3 : Lo} {σ' : L2.St} {H' : Hp} {M' : Mp} {v : V} {u : Value} {d : D}, I3 ⟨Pg, w, K, ca⟩ (cxOf C8.CX0 Pg w K mg base N qual (C8.fnScope st) f cdv A outer s H C8.E0).nox M [] σ3 M' σ' H' s' → RelV v u → RD ⟨Pg, w, K, ca⟩ H' d v → Q d M' → CE outer Pg w H s (QV ⟨Pg, w, K, ca⟩ H M Q) u s' :=
    fun {σ3 σ' H' M' v u d} J rv rd q => ⟨v, H', J.inv.os, J.inv.bare, J.inv.base, J.inv.hok, rv, d, M', J.hp, J.st, rd, q⟩
  cases fl with
  | ret u =>
    obtain ⟨d, v, σ3, M', σ', H', J, _, rv, rd', q⟩ := hs
    exact fin J rv rd' q
  | next =>
    obtain ⟨σ3, M', σ', H', J, _, q⟩ := hs
    exact fin (v := V.non) (u := Value.none) (d := .non) J rfl rfl q
  | brk =>
    obtain ⟨_, _, _, _, _, _, q⟩ := hs
    exact False.elim q
  | cont =>
    obtain ⟨_, _, _, _, _, _, q⟩ := hs
    exact False.elim q
end
end L3
end
section
set_option autoImplicit false
set_option linter.all false
set_option maxRecDepth 100000
/-! L3: the law's end -/
namespace L3
open PySem L2 PyProof.Rows PySem.Spec

theorem rds_ints {C : Ct} {H : Hp} : ∀ (ns : List Int), RDs C H (ns.map D.int) (ns.map V.int)
  | [] => rfl
  | n :: ns => ⟨.int n, ns.map V.int, rfl, rfl, rds_ints ns⟩
/-- the script's object alone -/
def Sole (a : Addr) (H : Hp) : Prop := ∀ b u, H b = some u → b = a ∧ ∃ ob xs, u = .frz ob (.lst xs)
section
variable {Pg : Program} {w : World} {K : PySem.W.Frag} {ca : Nat → Addr} {mg mb : Str → Option Value} {k : Nat} {fa a : Addr} {fd : FuncData} {x : Str} {sp : Spec} {s₁ : Shared} {vs : List Value} {ns : List Int}
theorem end_core {H : Hp} (hin : K.In s₁.heap) (gns : s₁.heap.Ns mainGlobals mg) (bns : s₁.heap.Ns builtinsNs mb) (bot : ∀ x : Str, x ≠ "__name__" → mb x = bootBuiltins x) (nl : s₁.heap.NoLimit) (ng : s₁.gens = #[])
    (ob : s₁.heap.get? a = some { cls := .type "list", data := .seq vs.toArray }) (room : Room k callerA)
    (F : ∀ base : Heap, K.In base → base.Ns mainGlobals mg → FnG ⟨Pg, w, K, ca⟩ mg base k fa fd [x] sp) (bnd : ∀ (s : Shared) (u : Value), BindsTo s fd ⟨[u], []⟩ [(x, u)])
    (law : ∀ Q X, (∀ M, Q (.bl true) M) → sp [.kl (ns.map .int)] (fun _ => none) Q X)
    (so : Sole a H) (sq : SqF K H a (ns.map V.int)) (hok : HOk Pg w H s₁.heap) (hK : H a ≠ none → K.lookup a = none) :
    codeAny (model Pg w) callerA (.call (.ref fa) ⟨[.ref a], []⟩) (fun r s' => r = .ok (.ret (.bool true)) ∧ OldK s₁.heap s'.heap ∧ s'.os = s₁.os ∧ AllBare s'.gens) s₁ := by
  have only : ∀ {b : Addr}, b ≠ a → H b = none := fun {b} hb => by
    cases q : H b with
    | none => rfl
    | some u => exact absurd (so b u q).1 hb
  have dict0 : ∀ {b : Addr} {o : Obj} {es : Array DictEntry} {ep : Nat}, s₁.heap.get? b = some o → o.data = .dict es ep → H b = none := fun {b o es ep} e dd => by
    by_cases hb : b = a
    · rw [hb, ob] at e
      cases e
      exact nomatch dd
    · exact only hb
  have nsT : ∀ {b : Addr} {m : Str → Option Value}, s₁.heap.Ns b m → (hidT s₁.heap H).Ns b m := fun {b m} z => by
    obtain ⟨o, es, ep, e, dd, rest⟩ := z
    exact ⟨o, es, ep, hidT_get e (dict0 e dd), dd, rest⟩
  have kT : K.In (hidT s₁.heap H) := fun b o e => by
    refine hidT_get (hin b o e) ?_
    by_cases hb : b = a
    · subst hb
      cases q : H b with
      | none => rfl
      | some u =>
        have z := hK (by rw [q]; exact nofun)
        rw [e] at z
        cases z
    · exact only hb
  have md : Mod K mg (hidT s₁.heap H) := ⟨kT, nsT gns, ⟨mb, nsT bns, bot⟩, by obtain ⟨mc, h1, h2⟩ := nl; exact ⟨mc, nsT h1, h2⟩⟩
  have env : Env0 Pg w K mg (hidT s₁.heap H) callerA [] s₁ H := ⟨rfl, md, fun b o => of_hidT, Nat.le_of_eq (hidT_size _ _), trivial, (fun b hb => nomatch hb), hok, .of_eq ng⟩
  have rdl : RDs ⟨Pg, w, K, ca⟩ H [.kl (ns.map .int)] [.ref a] := ⟨.ref a, [], rfl, ⟨a, ns.map V.int, rfl, sq, rds_ints ns⟩, rfl⟩
  have rm0 : RM ⟨Pg, w, K, ca⟩ H (fun _ => none) := fun _ _ e => nomatch e
  refine codeAny_mono ((F _ kT (nsT gns)).run callerA [] s₁ H ⟨[.ref a], []⟩ [.ref a] [.ref a] [.kl (ns.map .int)] (fun _ => none) (fun d _ => d = .bl true) (fun _ _ => False) room rfl env (bnd s₁ (.ref a)) (.cons rfl .nil) rdl rm0 (law _ _ fun _ => rfl)) fun r s' h => ?_
  match r, h with
  | .ok (.ret u), h =>
    obtain ⟨v, H', os, bare, un, hok', rv, d, M', _, _, rd, q⟩ := h
    subst q
    have ev : v = .bl true := rd
    subst ev
    obtain rfl : u = Value.bool true := rv
    refine ⟨rfl, OldK.of_keep fun b o e => ?_, os, bare⟩
    cases q : H b with
    | none => exact un.keep b o e q (fun z => nomatch z) (by simp)
    | some u =>
      obtain ⟨_, ob2, xs, e2⟩ := so b u q
      subst e2
      have e3 := (hok b _ q).1
      rw [e] at e3
      cases e3
      exact (hok' b _ (un.frzs b _ _ q)).1
theorem law_call3 (hin : K.In s₁.heap) (gns : s₁.heap.Ns mainGlobals mg) (bns : s₁.heap.Ns builtinsNs mb) (bot : ∀ x : Str, x ≠ "__name__" → mb x = bootBuiltins x) (nl : s₁.heap.NoLimit) (ng : s₁.gens = #[])
    (ob : s₁.heap.get? a = some { cls := .type "list", data := .seq vs.toArray }) (hi : IntsAre vs ns) (hl : ns.length ≤ sizeLine) (room : Room k callerA)
    (F : ∀ base : Heap, K.In base → base.Ns mainGlobals mg → FnG ⟨Pg, w, K, ca⟩ mg base k fa fd [x] sp) (bnd : ∀ (s : Shared) (u : Value), BindsTo s fd ⟨[u], []⟩ [(x, u)])
    (law : ∀ Q X, (∀ M, Q (.bl true) M) → sp [.kl (ns.map .int)] (fun _ => none) Q X) :
    codeAny (model Pg w) callerA (.call (.ref fa) ⟨[.ref a], []⟩) (fun r s' => r = .ok (.ret (.bool true)) ∧ OldK s₁.heap s'.heap ∧ s'.os = s₁.os ∧ AllBare s'.gens) s₁ := by
  have rv := vals_ints hi
  have len := hi.length
  cases e : K.lookup a with
  | some o =>
    have e1 := hin a o e
    rw [ob] at e1
    cases e1
    exact end_core (H := fun _ => none) hin gns bns bot nl ng ob room F bnd law (fun _ _ z => nomatch z) (.inr ⟨_, vs.toArray, _, e, rfl, rfl, rfl, by rw [List.size_toArray, len]; exact hl, by simpa using rv⟩) (fun _ _ z => nomatch z) fun z => absurd rfl z
  | none =>
    refine end_core (H := fun b => if b = a then some (.frz { cls := .type "list", data := .seq vs.toArray } (.lst (ns.map V.int))) else none) hin gns bns bot nl ng ob room F bnd law (fun b u z => ?_) (.inl ⟨_, if_pos rfl⟩) (fun b u z => ?_) fun _ => e
    · by_cases hb : b = a
      · simp only [if_pos hb] at z
        cases z
        exact ⟨hb, _, _, rfl⟩
      · simp only [if_neg hb] at z
        cases z
    · by_cases hb : b = a
      · simp only [if_pos hb] at z
        cases z
        subst hb
        exact ⟨ob, by rw [List.length_map]; exact hl, vs, _, rv, ob⟩
      · simp only [if_neg hb] at z
        cases z
end
/-- what the head leaves -/
theorem walk3 {l : PySem.W.OpenLaw} {n k : Nat} {q : Program} {loose : List Str} {XP : (Str → Option Value) → Heap → Prop} {YP : World → Heap → Prop} {d : DefRec} {x : Str}
    (hn : l.most = some n) (hn2 : n ≤ sizeLine) (hdf : d.params.defaults = []) (room : Room k callerA)
    (F : ∀ (w : World) (mg : Str → Option Value) (fa : Addr) (h : Heap), YP w h → h.Ns mainGlobals mg → mg d.name = some (.ref fa) →
      ∃ (K : PySem.W.Frag) (fd : FuncData) (ca : Nat → Addr) (sp : Spec), K.In h ∧ (∀ (s : Shared) (u : Value), BindsTo s fd ⟨[u], []⟩ [(x, u)]) ∧ (∀ base : Heap, K.In base → base.Ns mainGlobals mg → FnG ⟨l.prog, w, K, ca⟩ mg base k fa fd [x] sp) ∧
        ∀ ns : List Int, ns.length ≤ n → ∀ Q X, (∀ M, Q (.bl true) M) → sp [.kl (ns.map .int)] (fun _ => none) Q X) :
    PySem.W.WalkO q loose XP YP l.row.toRowW d [] (fun f vs => PySem.call f vs) := by
  refine Att.attach_call hn hdf fun w s₀ s₁ mg mb fa o pm cd doc a vs ns G Y ho hd hcd hmg hobj hints hlen hg => ?_
  obtain ⟨K, fd, ca, sp, hin, h1, h2, h3⟩ := F w mg fa _ Y G.T.g hmg
  exact law_call3 hin G.T.g G.T.b G.T.builtins G.T.nolimit hg hobj hints (Nat.le_trans hlen hn2) room h2 h1 (h3 ns hlen)
end L3
end
section
set_option autoImplicit false
set_option linter.all false
set_option maxRecDepth 100000
/-! L3: the head's facts: defs, free names, constants -/
namespace L3
open PySem L2 PyProof.Rows PySem.Spec

abbrev Al3 : Type := He.AlD × Bool
def obs3 (n : Nat) (fa : List He.Fa) (fn : List He.DefD) (ex : PySem.W.Frag → Bool) (g : Addr → Option Obj) : Al3 := (He.obsD fa fn (He.frG g (sysModules :: He.asD g n)), ex (He.frG g (sysModules :: He.asD g n)))
structure Says3 (fa : List He.Fa) (fn : List He.DefD) (ex : PySem.W.Frag → Bool) (K : PySem.W.Frag) : Prop where
  d : He.SaysD fa fn K
  x : ex K = true
def hook3 (n : Nat) (fa : List He.Fa) (fn : List He.DefD) (ex : PySem.W.Frag → Bool) : PySem.W.Hook where
  α := Al3
  obs := fun s => obs3 n fa fn ex s.heap.get?
  val := fun _ => (He.valD fn, true)
  says := fun _ h => ∃ K : PySem.W.Frag, K.In h ∧ Says3 fa fn ex K
  of := fun _ _ e => ⟨_, He.frG_in, (Prod.mk.inj e).1, (Prod.mk.inj e).2⟩
  keeps := fun _ _ _ ⟨K, hK, c⟩ k => ⟨K, PySem.W.Frag.In.keeps hK k, c⟩
theorem obs3_eq {n : Nat} {fa : List He.Fa} {fn : List He.DefD} {ex : PySem.W.Frag → Bool} {g : Addr → Option Obj} {s : Shared} (h : ∀ a, g a = s.heap.get? a) : obs3 n fa fn ex g = (hook3 n fa fn ex).obs s := by
  have e : g = s.heap.get? := funext h
  subst e
  rfl
/-- a tuple of plain values by a module's name -/
def DvD : He.Dv → Option D
  | .non => some .non
  | .bl b => some (.bl b)
  | .int i => some (.int i)
  | .str x => some (.str x)
  | _ => none
def conT (K : PySem.W.Frag) (x : Str) (vs : List He.Dv) : Bool := He.tupB K x vs && (He.Fa.glo x).ok K
theorem dvs_rd {C : Ct} {H : Hp} : ∀ {vs : List He.Dv} {ds : List D}, vs.map DvD = ds.map some → RDs C H ds (vs.map (He.Dv.v C.K))
  | [], [], _ => rfl
  | [], _ :: _, h => by cases h
  | _ :: _, [], h => by cases h
  | v :: vs, d :: ds, h => by
    have h' : DvD v :: vs.map DvD = some d :: ds.map some := h
    injection h' with h1 h2
    refine ⟨v.v C.K, vs.map (He.Dv.v C.K), rfl, ?_, dvs_rd h2⟩
    cases v <;> first | (cases h1; rfl) | cases h1
def tupN (K : PySem.W.Frag) (x : Str) : Bool := match K.lookup (He.ga K x) with
  | some ⟨.type c, none, _, _⟩ => decide (c = "tuple")
  | _ => false
theorem tupN_ok {K : PySem.W.Frag} {x : Str} (h : tupN K x = true) : ∃ o, K.lookup (He.ga K x) = some o ∧ o.cls = .type "tuple" ∧ o.dict = none := by
  unfold tupN at h
  cases q : K.lookup (He.ga K x) with
  | none => rw [q] at h; cases h
  | some o =>
    obtain ⟨oc, od, dt, sl⟩ := o
    rw [q] at h
    cases oc with
    | type c => cases od with
      | none =>
        have e : c = "tuple" := of_decide_eq_true h
        exact ⟨_, rfl, by rw [e], rfl⟩
      | some _ => cases h
    | _ => cases od <;> cases h
def sysB (K : PySem.W.Frag) : Bool := match K.lookup sysModules with
  | some ⟨.type c, _, _, _⟩ => decide (c = "dict")
  | _ => false
theorem sysB_ok {K : PySem.W.Frag} (h : sysB K = true) : SysD K := by
  unfold sysB at h
  cases q : K.lookup sysModules with
  | none => rw [q] at h; cases h
  | some o =>
    obtain ⟨oc, od, dt, sl⟩ := o
    rw [q] at h
    cases oc with
    | type c =>
      have e : c = "dict" := of_decide_eq_true h
      exact ⟨_, q, by rw [e]⟩
    | _ => cases h
theorem con_ok {C : Ct} {h : Heap} {mg : Str → Option Value} {x : Str} {vs : List He.Dv} {ds : List D} (X : C.K.In h) (G : h.Ns mainGlobals mg) (c : conT C.K x vs = true) (n : tupN C.K x = true) (e : vs.map DvD = ds.map some) : ∃ u v, mg x = some u ∧ RelV v u ∧ (∀ H, RD C H (.tup ds) v) ∧ ∀ es, D.tup ds = .tup es → ∃ a o, v = .ref a ∧ C.K.lookup a = some o ∧ o.cls = .type "tuple" ∧ o.dict = none := by
  obtain ⟨c1, c2⟩ := He.ba c
  obtain ⟨o, h1, h2, h3⟩ := tupN_ok n
  exact ⟨_, .ref (He.ga C.K x), He.glo_ok X G c2, rfl, fun H => ⟨_, _, rfl, He.tupB_ok c1 H, dvs_rd e⟩, fun es _ => ⟨_, o, rfl, h1, h2, h3⟩⟩
theorem fun_of {K : PySem.W.Frag} {x q : Str} {st : Stmt} {f : Addr} {fd : FuncData} (F : FunD K x q (C8.fnArgs st) (C8.fnBody st) (C8.fnScope st) [] [] f fd) : C8.Fun K x q st f fd := by
  obtain ⟨oc, od, dV, kV, doc, pm, an, cdv, ct, osl, e, lk, hcd, _, _⟩ := F.ex
  exact ⟨oc, od, dV, kV, doc, pm, an, cdv, ct, osl, e, lk, hcd⟩
end L3
end
section
set_option autoImplicit false
set_option linter.all false
set_option maxRecDepth 100000
/-! L3: a law from its defs' promises -/
namespace L3
open PySem L2 PyProof.Rows PySem.Spec

/-- a def of the module: name, its class (by place), statement, its names by slot, its parameters, its body in the small language -/
structure DefP where
  x : Str
  cl : Option Nat
  st : Stmt
  N : List Str
  ps : List Str
  ir : Ss
/-- the module's data: defs, other names, classes, their fields -/
structure Md where
  ds : List DefP
  gl : List (Str × GR)
  cls : List Str
  fls : List (Nat × Str)
def Md.cn (m : Md) (c : Nat) : Str := m.cls.getD c Str.empty
def Md.at_ (m : Md) (d : DefP) : Str × Option Str := match d.cl with
  | none => (d.x, none)
  | some c => (m.cn c, some d.x)
def Md.qual (m : Md) (d : DefP) : Str := match d.cl with
  | none => d.x
  | some c => m.cn c ++ "." ++ d.x
def initN : Str := "__init__"
def Md.row (m : Md) (d : DefP) (j : Nat) : Str × GR := match d.cl with
  | none => (d.x, .fn j)
  | some c => if d.x = initN then (m.cn c, .cls c j) else (dotted d.x, .mth c j)
def Md.glk (m : Md) (i : Nat) : List (Str × GR) := ((m.ds.take i).zipIdx.map fun p => m.row p.1 p.2) ++ m.gl
def gOther (gl : List (Str × GR)) : Bool := gl.all fun p => match p.2 with
  | .blt => true
  | .con _ => true
  | _ => false
def Md.fl (m : Md) (c : Nat) (f : Str) : Bool := m.fls.any fun p => p.1 == c && p.2 == f
/-- what stands in the text alone -/
structure StP (P : Pr) (m : Md) (i : Nat) (d : DefP) : Prop where
  sc : FnScope d.N d.ps (C8.fnScope d.st)
  ir : cSs 200 ⟨d.N, C8.fnScope d.st, m.glk i, true⟩ (C8.fnBody d.st) = some d.ir
  len : ∀ xs M Q X, P.sp i xs M Q X → xs.length = d.ps.length
  ok : Keeps P (P.sp i) d.N.length d.ir
  bd : ∀ (kV doc pm : Value) (an : Option Addr) (cdv ct : Value) (us : List Value), us.length = d.ps.length → bindArgs (PySem.W.fnOf d.x (m.qual d) (C8.fnArgs d.st) (C8.fnBody d.st) (C8.fnScope d.st) .none kV doc pm an cdv ct) ⟨us, []⟩ = pure (d.ps.zip us)
def AllD (p : Nat → DefP → Prop) : Nat → List DefP → Prop
  | _, [] => True
  | i, d :: ds => p i d ∧ AllD p (i + 1) ds
theorem AllD.get {p : Nat → DefP → Prop} : ∀ {ds : List DefP} {j i : Nat} {d : DefP}, AllD p j ds → ds[i]? = some d → p (j + i) d
  | [], j, i, d, h, e => by simp at e
  | d' :: ds, j, 0, d, h, e => by
    have : d' = d := by simpa using e
    subst this
    exact h.1
  | d' :: ds, j, i + 1, d, h, e => by
    have := AllD.get (i := i) (d := d) h.2 (by simpa using e)
    rw [show j + (i + 1) = j + 1 + i by omega]
    exact this
/-! ### constants -/
def dvOf : D → He.Dv
  | .non => .non
  | .bl b => .bl b
  | .int i => .int i
  | .str x => .str x
  | _ => .ty ""
def D.flat0 : D → Bool
  | .non => true
  | .bl _ => true
  | .int _ => true
  | .str _ => true
  | _ => false
def conX (K : PySem.W.Frag) (x : Str) : D → Bool
  | .int i => (He.Fa.int x i).ok K
  | .str z => (He.Fa.str x z).ok K
  | .tup ds => (conT K x (ds.map dvOf) && ds.all D.flat0) && tupN K x
  | _ => false
theorem dv_all : ∀ {ds : List D}, ds.all D.flat0 = true → (ds.map dvOf).map DvD = ds.map some
  | [], _ => rfl
  | d :: ds, h => by
    have h' : (d.flat0 && ds.all D.flat0) = true := h
    obtain ⟨h1, h2⟩ := He.ba h'
    show DvD (dvOf d) :: (ds.map dvOf).map DvD = some d :: ds.map some
    rw [dv_all h2]
    congr 1
    cases d <;> first | rfl | cases h1
theorem conX_ok {C : Ct} {h : Heap} {mg : Str → Option Value} {x : Str} {d : D} (X : C.K.In h) (G : h.Ns mainGlobals mg) (c : conX C.K x d = true) : ∃ u v, mg x = some u ∧ RelV v u ∧ (∀ H, RD C H d v) ∧ ∀ es, d = .tup es → ∃ a o, v = .ref a ∧ C.K.lookup a = some o ∧ o.cls = .type "tuple" ∧ o.dict = none := by
  cases d with
  | int i =>
    obtain ⟨t, e⟩ := He.int_ok X G c
    exact ⟨_, .int i, e, ⟨t, rfl⟩, fun _ => rfl, fun _ z => nomatch z⟩
  | str z =>
    obtain ⟨t, e⟩ := He.str_ok X G c
    exact ⟨_, .str z, e, ⟨t, rfl⟩, fun _ => rfl, fun _ z => nomatch z⟩
  | tup ds =>
    obtain ⟨c1, c3⟩ := He.ba c
    obtain ⟨c1, c2⟩ := He.ba c1
    exact con_ok X G c1 c3 (dv_all c2)
  | _ => cases c
/-! ### what is asked of the head -/
def freeOf (gl : List (Str × GR)) : List Str := gl.filterMap fun p => match p.2 with
  | .blt => some p.1
  | _ => none
def Md.fact (m : Md) (d : DefP) : He.Fa := match d.cl with
  | none => .glo d.x
  | some c => if d.x = initN then .mkr (m.cn c) else .meth (m.cn c) d.x
def Md.fa (m : Md) : List He.Fa := m.ds.map m.fact ++ ((freeOf m.gl).map He.Fa.free ++ (m.cls.map He.Fa.glo ++ (m.cls.map He.Fa.cls ++ m.fls.map fun p => He.Fa.noat (m.cn p.1) p.2)))
def Md.fn (m : Md) : List He.DefD := m.ds.map fun d => ⟨m.at_ d, d.x, m.qual d, C8.fnArgs d.st, C8.fnBody d.st, C8.fnScope d.st, [], []⟩
def Md.ex (m : Md) (K : PySem.W.Frag) : Bool := sysB K && m.gl.all fun p => match p.2 with
  | .con d => conX K p.1 d
  | _ => true
/-- the fields' classes are there -/
def Md.flOk (m : Md) : Bool := m.fls.all fun p => decide (p.1 < m.cls.length)
abbrev hookOf (m : Md) : PySem.W.Hook := hook3 5 m.fa m.fn m.ex
def obOf (m : Md) (s : PySem.W.SharedT) : Al3 := obs3 5 m.fa m.fn m.ex (HandSHeadRun.getT s)
theorem obOf_eq (m : Md) (s : PySem.W.SharedT) : obOf m s = (hookOf m).obs s.abs := obs3_eq (HandSHeadRun.getT_eq s)
section
variable {Pg : Program} {w : World} {K : PySem.W.Frag} {mg : Str → Option Value} {base h : Heap} {P : Pr} {m : Md}
def Md.ca (m : Md) (K : PySem.W.Frag) (c : Nat) : Addr := He.ga K (m.cn c)
theorem fact_in {fa : List He.Fa} {fn : List He.DefD} {f : He.Fa} (c : He.SaysD fa fn K) (h : f ∈ fa) : f.ok K = true := by
  obtain ⟨i, e⟩ := List.getElem?_of_mem h
  exact c.fact i e
theorem fact_of (c : Says3 m.fa m.fn m.ex K) {i : Nat} {d : DefP} (e : m.ds[i]? = some d) : (m.fact d).ok K = true :=
  fact_in c.d (List.mem_append_left _ (List.mem_map.mpr ⟨d, List.mem_of_getElem? e, rfl⟩))
theorem def_of (c : Says3 m.fa m.fn m.ex K) {i : Nat} {d : DefP} (e : m.ds[i]? = some d) : ∃ fd, FunD K d.x (m.qual d) (C8.fnArgs d.st) (C8.fnBody d.st) (C8.fnScope d.st) [] [] (He.fAd K (m.at_ d)) fd := by
  obtain ⟨fd, F⟩ := c.d.def_ i (d := ⟨m.at_ d, d.x, m.qual d, C8.fnArgs d.st, C8.fnBody d.st, C8.fnScope d.st, [], []⟩) (by show (m.ds.map _)[i]? = _; rw [List.getElem?_map, e]; rfl)
  exact ⟨fd, F⟩
theorem dotted_inj {a b : Str} (h : dotted a = dotted b) : a = b := by
  have h2 : #[46] ++ a.cps = #[46] ++ b.cps := congrArg Str.cps h
  obtain ⟨x⟩ := a
  obtain ⟨y⟩ := b
  congr 1
  exact Array.append_right_inj _ |>.mp h2
theorem cls_at (hc : m.flOk = true) (X : K.In h) (G : h.Ns mainGlobals mg) (c : Says3 m.fa m.fn m.ex K) (hP : P.fl = m.fl) (i : Nat) (f : Str) (hf : P.fl i f = true) : Cls K (m.ca K i) ∧ NoAttr K (m.ca K i) f := by
  rw [hP] at hf
  obtain ⟨p, hp, e⟩ := List.any_eq_true.mp hf
  rw [Bool.and_eq_true] at e
  have e1 : p.1 = i := by simpa using e.1
  have e2 : p.2 = f := by simpa using e.2
  subst e1 e2
  have hl : p.1 < m.cls.length := of_decide_eq_true (List.all_eq_true.mp hc p hp)
  have hm : m.cn p.1 ∈ m.cls := by
    unfold Md.cn
    rw [List.getD_eq_getElem?_getD, List.getElem?_eq_getElem hl]
    exact List.getElem_mem hl
  exact ⟨He.cls_ok (fact_in c.d (List.mem_append_right _ (List.mem_append_right _ (List.mem_append_right _ (List.mem_append_left _ (List.mem_map.mpr ⟨_, hm, rfl⟩)))))),
    He.noat_ok (fact_in c.d (List.mem_append_right _ (List.mem_append_right _ (List.mem_append_right _ (List.mem_append_right _ (List.mem_map.mpr ⟨p, hp, rfl⟩))))))⟩
/-- the classes that have a def stand among the classes -/
def Md.clOk (m : Md) : Bool := m.ds.all fun d => match d.cl with
  | none => true
  | some c => decide (c < m.cls.length)
/-- every def keeps its promise, level by level -/
theorem all_fng (hc : m.flOk = true) (hd : m.clOk = true) (hP : P.fl = m.fl) (X : K.In h) (G : h.Ns mainGlobals mg) (c : Says3 m.fa m.fn m.ex K) (go : gOther m.gl = true) (S : AllD (StP P m) 0 m.ds) : ∀ (i : Nat) (d : DefP) (fd : FuncData), m.ds[i]? = some d → FunD K d.x (m.qual d) (C8.fnArgs d.st) (C8.fnBody d.st) (C8.fnScope d.st) [] [] (He.fAd K (m.at_ d)) fd →
    FnG ⟨Pg, w, K, m.ca K⟩ mg base (2 * i + 1) (He.fAd K (m.at_ d)) fd d.ps (P.sp i) := by
  intro i
  obtain ⟨cx1, cx2⟩ := He.ba (show (sysB K && m.gl.all fun p => match p.2 with | .con d => conX K p.1 d | _ => true) = true from c.x)
  have cnM : ∀ {j : Nat} {d : DefP} {k : Nat}, m.ds[j]? = some d → d.cl = some k → m.cn k ∈ m.cls := fun {j d k} e ek => by
    have z := List.all_eq_true.mp hd d (List.mem_of_getElem? e)
    rw [ek] at z
    have hl : k < m.cls.length := of_decide_eq_true z
    unfold Md.cn
    rw [List.getD_eq_getElem?_getD, List.getElem?_eq_getElem hl]
    exact List.getElem_mem hl
  have gloC : ∀ {x : Str}, x ∈ m.cls → mg x = some (.ref (He.ga K x)) := fun {x} hx => He.glo_ok X G (fact_in c.d (List.mem_append_right _ (List.mem_append_right _ (List.mem_append_left _ (List.mem_map.mpr ⟨x, hx, rfl⟩)))))
  have clsC : ∀ {x : Str}, x ∈ m.cls → Cls K (He.ga K x) := fun {x} hx => He.cls_ok (fact_in c.d (List.mem_append_right _ (List.mem_append_right _ (List.mem_append_right _ (List.mem_append_left _ (List.mem_map.mpr ⟨x, hx, rfl⟩))))))
  induction i using Nat.strongRecOn with
  | ind i ih =>
    intro d fd e F
    have s := S.get e
    rw [Nat.zero_add] at s
    -- a row of the names is a def below
    have below : ∀ {x : Str} {g : GR}, (m.glk i).lookup x = some g → ((x, g) ∈ m.gl) ∨ ∃ (j : Nat) (d' : DefP), j < i ∧ m.ds[j]? = some d' ∧ m.row d' j = (x, g) := fun {x g} hx => by
      rcases List.mem_append.mp (PySem.mem_of_lookup hx) with hm | hm
      · obtain ⟨⟨d', j'⟩, hm2, ee⟩ := List.mem_map.mp hm
        obtain ⟨_, hlt, e'⟩ := List.mem_zipIdx hm2
        have hji : j' < i := by rw [List.length_take] at hlt; omega
        refine .inr ⟨j', d', hji, ?_, ee⟩
        rw [e', List.getElem_take]
        simp only [Nat.sub_zero]
        exact List.getElem?_eq_getElem _
      · exact .inl hm
    have other : ∀ {x : Str} {g : GR}, (x, g) ∈ m.gl → g = .blt ∨ ∃ v, g = .con v := fun {x g} hm => by
      have := List.all_eq_true.mp go _ hm
      cases g with
      | blt => exact .inl rfl
      | con v => exact .inr ⟨v, rfl⟩
      | _ => cases this
    have sub : ∀ {j : Nat} {d' : DefP}, j < i → m.ds[j]? = some d' → ∃ fd', PySem.W.keepIn K (.ref (He.fAd K (m.at_ d'))) = true ∧ Binds K fd' d'.ps [] ∧ FnG ⟨Pg, w, K, m.ca K⟩ mg base (2 * j + 1) (He.fAd K (m.at_ d')) fd' d'.ps (P.sp j) := fun {j d'} hj e' => by
      obtain ⟨fd', F'⟩ := def_of c e'
      have s' := S.get e'
      rw [Nat.zero_add] at s'
      exact ⟨fd', F'.kp, F'.bindsN s'.bd, ih j hj d' fd' e' F'⟩
    refine fng_of (k := 2 * i) (fun_of F) s.sc s.ir (sysB_ok cx1) s.len s.ok ⟨fun x j hx => ?_, fun x hx => ?_, fun x k j hx => ?_, fun x k j hx => ?_, fun k f hf => cls_at hc X G c hP k f hf, fun x v hx => ?_⟩
    · rcases below hx with hm | ⟨j', d', hj, e', er⟩
      · rcases other hm with z | ⟨v, z⟩ <;> cases z
      · unfold Md.row at er
        cases q : d'.cl with
        | some k => rw [q] at er; simp only at er; split at er <;> (have := (Prod.mk.inj er).2; cases this)
        | none =>
          rw [q] at er
          cases er
          obtain ⟨fd', h1, h2, h3⟩ := sub hj e'
          have ea : m.at_ d' = (d'.x, none) := by unfold Md.at_; rw [q]
          have f1 := fact_of c e'
          unfold Md.fact at f1
          rw [q] at f1
          rw [ea] at h1 h3
          exact ⟨2 * j + 1, _, fd', d'.ps, by omega, He.glo_ok X G f1, h1, h2, h3⟩
    · rcases below hx with hm | ⟨j', d', hj, e', er⟩
      · exact He.free_ok X G (fact_in c.d (List.mem_append_right _ (List.mem_append_left _ (List.mem_map.mpr ⟨x, List.mem_filterMap.mpr ⟨_, hm, rfl⟩, rfl⟩))))
      · unfold Md.row at er
        cases q : d'.cl with
        | some k => rw [q] at er; simp only at er; split at er <;> (have := (Prod.mk.inj er).2; cases this)
        | none => rw [q] at er; have := (Prod.mk.inj er).2; cases this
    · rcases below hx with hm | ⟨j', d', hj, e', er⟩
      · rcases other hm with z | ⟨v, z⟩ <;> cases z
      · unfold Md.row at er
        cases q : d'.cl with
        | none => rw [q] at er; have := (Prod.mk.inj er).2; cases this
        | some k' =>
          rw [q] at er
          simp only at er
          split at er
          · rename_i hi
            obtain ⟨er1, er2⟩ := Prod.mk.inj er
            cases er2
            subst er1
            obtain ⟨fd', h1, h2, h3⟩ := sub hj e'
            have ea : m.at_ d' = (m.cn k, some d'.x) := by unfold Md.at_; rw [q]
            have f1 := fact_of c e'
            unfold Md.fact at f1
            rw [q] at f1
            simp only at f1
            rw [if_pos hi] at f1
            rw [ea] at h3
            have ef : He.fAd K (m.cn k, some d'.x) = He.ma K (He.ga K (m.cn k)) "__init__" := by rw [hi]; rfl
            rw [ef] at h3
            exact ⟨2 * j + 1, _, fd', d'.ps, by omega, gloC (cnM e' q), He.mkr_ok f1, h2, h3⟩
          · have := (Prod.mk.inj er).2; cases this
    · rcases below hx with hm | ⟨j', d', hj, e', er⟩
      · rcases other hm with z | ⟨v, z⟩ <;> cases z
      · unfold Md.row at er
        cases q : d'.cl with
        | none => rw [q] at er; have := (Prod.mk.inj er).2; cases this
        | some k' =>
          rw [q] at er
          simp only at er
          split at er
          · have := (Prod.mk.inj er).2; cases this
          · rename_i hi
            obtain ⟨er1, er2⟩ := Prod.mk.inj er
            cases er2
            have ex := dotted_inj er1
            subst ex
            obtain ⟨fd', h1, h2, h3⟩ := sub hj e'
            have ea : m.at_ d' = (m.cn k, some d'.x) := by unfold Md.at_; rw [q]
            have f1 := fact_of c e'
            unfold Md.fact at f1
            rw [q] at f1
            simp only at f1
            rw [if_neg hi] at f1
            rw [ea] at h3
            exact ⟨2 * j + 1, _, fd', d'.ps, by omega, clsC (cnM e' q), He.meth_ok f1, h2, h3⟩
    · rcases below hx with hm | ⟨j', d', hj, e', er⟩
      · exact conX_ok (C := ⟨Pg, w, K, m.ca K⟩) X G (List.all_eq_true.mp cx2 _ hm)
      · unfold Md.row at er
        cases q : d'.cl with
        | some k => rw [q] at er; simp only at er; split at er <;> (have := (Prod.mk.inj er).2; cases this)
        | none => rw [q] at er; have := (Prod.mk.inj er).2; cases this
end
/-- the law: its head's call case -/
theorem hc3 {l : PySem.W.OpenLaw} {n i : Nat} {q : Program} {loose : List Str} {XP : (Str → Option Value) → Heap → Prop} {dr : DefRec} {x : Str} {P : Pr} {m : Md} {dl : DefP}
    (hn : l.most = some n) (hn2 : n ≤ sizeLine) (hdf : dr.params.defaults = []) (hc : (m.flOk && m.clOk && gOther m.gl) = true) (hP : P.fl = m.fl) (S : AllD (StP P m) 0 m.ds) (hl : m.ds[i]? = some dl) (hcl : dl.cl = none) (hp : dl.ps = [x]) (hx : dr.name = dl.x) (room : Room (2 * i + 1) callerA)
    (fin : ∀ ns : List Int, ns.length ≤ n → ∀ Q X, (∀ M, Q (.bl true) M) → P.sp i [.kl (ns.map .int)] (fun _ => none) Q X) :
    PySem.W.WalkO q loose XP (hookOf m).says l.row.toRowW dr [] (fun f vs => PySem.call f vs) := by
  rw [Bool.and_eq_true, Bool.and_eq_true] at hc
  obtain ⟨⟨hc1, hc2⟩, hc3⟩ := hc
  refine walk3 (x := x) (k := 2 * i + 1) hn hn2 hdf room fun w mg fa h Y G hmg => ?_
  obtain ⟨K, KX, c⟩ := Y
  obtain ⟨fd, F⟩ := def_of c hl
  have ea : m.at_ dl = (dl.x, none) := by unfold Md.at_; rw [hcl]
  have f1 := fact_of c hl
  unfold Md.fact at f1
  rw [hcl] at f1
  rw [hx] at hmg
  have e : some (Value.ref fa) = some (.ref (He.ga K dl.x)) := hmg.symm.trans (He.glo_ok KX G f1)
  cases e
  have s := S.get hl
  rw [Nat.zero_add] at s
  refine ⟨K, fd, m.ca K, P.sp i, KX, fun s' u => ?_, fun base _ _ => ?_, fin⟩
  · have b := FunD.bindsA (ps := dl.ps) F s.bd s' [u] (by rw [hp]; rfl)
    rw [hp] at b
    exact b
  · have g := all_fng (Pg := l.prog) (w := w) (base := base) hc1 hc2 hP KX G c hc3 S i dl fd hl F
    rw [hp, ea] at g
    exact g
end L3
end
section
set_option autoImplicit false
set_option linter.all false
set_option maxRecDepth 100000
/-! L3: facts for the readings: loops by an invariant, text of data -/
namespace L3
open PySem

section
variable {t : Tg} {G : Mp → Prop} {K : Ends}
/-- a for loop by what holds ahead of each turn -/
theorem forL_inv {body : Ends → Lo → Mp → Prop} {xs : List D} {σ : Lo} {M : Mp} (I : Nat → Lo → Mp → Prop) (h0 : I 0 σ M)
    (step : ∀ (i : Nat) (x : D) (σ : Lo) (M : Mp) (nx : Lo → Mp → Prop), xs[i]? = some x → I i σ M → (∀ σ' M', I (i + 1) σ' M' → nx σ' M') → G M ∧ wpTg t x σ M fun σ1 => body ⟨nx, K.rt, K.nx, nx⟩ σ1 M)
    (done : ∀ σ M, I xs.length σ M → G M ∧ K.nx σ M) : forL t body G K xs σ M := by
  have go : ∀ (l : List D) (i : Nat) (σ : Lo) (M : Mp), xs.drop i = l → i ≤ xs.length → I i σ M → forL t body G K l σ M := by
    intro l
    induction l with
    | nil =>
      intro i σ M e hi h
      have : xs.length ≤ i := List.drop_eq_nil_iff.mp e
      have e2 : i = xs.length := by omega
      subst e2
      exact done σ M h
    | cons x l ih =>
      intro i σ M e hi h
      have hx : xs[i]? = some x := by
        have := congrArg List.head? e
        rw [List.head?_drop] at this
        exact this
      have hl : xs.drop (i + 1) = l := by
        have := congrArg List.tail e
        rw [List.tail_drop] at this
        exact this
      have hlt : i < xs.length := (List.getElem?_eq_some_iff.mp hx).1
      exact step i x σ M _ hx h fun σ' M' h' => ih (i + 1) σ' M' hl hlt h'
  exact go xs 0 σ M rfl (Nat.zero_le _) h0
/-- a while loop by a measure -/
theorem whL_inv {c : Lo → Mp → (Bool → Mp → Prop) → Prop} {body : Ends → Lo → Mp → Prop} {σ : Lo} {M : Mp} (I : Nat → Lo → Mp → Prop) (n : Nat) (h0 : I n σ M)
    (step : ∀ (n : Nat) (σ : Lo) (M : Mp) (nx : Lo → Mp → Prop), I n σ M → (∀ m σ' M', m < n → I m σ' M' → nx σ' M') → c σ M fun b M1 => if b = true then body ⟨nx, K.rt, K.nx, nx⟩ σ M1 else K.nx σ M1) : ∃ n, whL c body K n σ M := by
  have go : ∀ (f n : Nat) (σ : Lo) (M : Mp), n < f → I n σ M → whL c body K f σ M := by
    intro f
    induction f with
    | zero => intro n σ M h; omega
    | succ f ih => intro n σ M h hI; exact step n σ M _ hI fun m σ' M' hm h' => ih m σ' M' (by omega) h'
  exact ⟨n + 1, go (n + 1) n σ M (by omega) h0⟩
theorem whL_any {c : Lo → Mp → (Bool → Mp → Prop) → Prop} {body : Ends → Lo → Mp → Prop} {σ : Lo} {M : Mp} (h : ∃ n, whL c body K n σ M) : ∃ n, whL c body K n σ M := h
end
theorem dRange_get' {lo hi : Int} {i : Nat} {d : D} (h : (dRange lo hi)[i]? = some d) : i < (hi - lo).toNat ∧ d = .int (lo + (i : Int)) := by
  unfold dRange at h
  rw [List.getElem?_map] at h
  by_cases hi' : i < (hi - lo).toNat
  · rw [List.getElem?_range hi'] at h
    cases h
    exact ⟨hi', rfl⟩
  · rw [List.getElem?_eq_none (by simp; omega)] at h
    cases h
theorem dRange_len {lo hi : Int} : (dRange lo hi).length = (hi - lo).toNat := by simp [dRange]
theorem mset_mset {M : Mp} {a : Addr} {o p : MO} : mset (mset M a o) a p = mset M a p := by
  funext b
  by_cases h : b = a
  · subst h; rw [mset_same, mset_same]
  · rw [mset_ne h, mset_ne h, mset_ne h]
theorem eqv_refl (d : D) : d.eqv d = true := by
  have : ∀ k : NestedKey, NestedKey.beq k k = true := fun k => NestedKey.beq_self k
  exact this d.key
theorem eqv_int (i j : Int) : (D.int i).eqv (.int j) = decide (i = j) := by
  show NestedKey.beq (.num i) (.num j) = _
  simp [NestedKey.beq]
theorem wpEq_int {i j : Int} {M : Mp} {k : Bool → Prop} : wpEq (.int i) (.int j) M k ↔ k (decide (i = j)) := by
  show (_ ∧ k ((D.int i).eqv (.int j))) ↔ _
  rw [eqv_int]
  exact ⟨fun h => h.2, fun h => ⟨⟨rfl, rfl⟩, h⟩⟩
theorem wpEq_same {x : D} {M : Mp} {k : Bool → Prop} (hx : ∀ a, x ≠ .ref a) (hf : x.flat = true) (h : k true) : wpEq x x M k := by
  have e := eqv_refl x
  cases x with
  | ref a => exact absurd rfl (hx a)
  | _ => exact ⟨⟨hf, hf⟩, by rw [e]; exact h⟩
section
variable {P : Pr} {M : Mp} {Q : Post} {k : Bool → Prop} {i j : Int} {x y : Str} {b c : Bool} {d e : D} {ds es : List D} {σ : Lo} {kl : Lo → Prop} {R : ItR}
theorem w_add : wpBin .add (.int i) (.int j) M Q ↔ Q (.int (i + j)) M := Iff.rfl
theorem w_addS : wpBin .add (.str x) (.str y) M Q ↔ x.length + y.length ≤ sizeLine ∧ Q (.str (x ++ y)) M := Iff.rfl
theorem w_addT : wpBin .add (.tup ds) (.tup es) M Q ↔ ds.length + es.length ≤ sizeLine ∧ Q (.tup (ds ++ es)) M := Iff.rfl
theorem w_sub : wpBin .sub (.int i) (.int j) M Q ↔ Q (.int (i - j)) M := Iff.rfl
theorem w_mul : wpBin .mul (.int i) (.int j) M Q ↔ MulOk i j ∧ Q (.int (i * j)) M := Iff.rfl
theorem w_fdiv : wpBin .fdiv (.int i) (.int j) M Q ↔ (0 < j ∧ j < 1073741824) ∧ Q (.int (i / j)) M := Iff.rfl
theorem w_mod : wpBin .mod (.int i) (.int j) M Q ↔ 0 < j ∧ Q (.int (i % j)) M := Iff.rfl
theorem w_pow : wpBin .pow (.int i) (.int j) M Q ↔ (0 ≤ j ∧ j ≤ 1000000 ∧ i.natAbs < 2 ^ 64) ∧ Q (.int (i ^ j.toNat)) M := Iff.rfl
theorem w_iadd : wpInp .add (.int i) (.int j) M Q ↔ Q (.int (i + j)) M := Iff.rfl
theorem w_isub : wpInp .sub (.int i) (.int j) M Q ↔ Q (.int (i - j)) M := Iff.rfl
theorem w_neg : wpUn .neg (.int i) M Q ↔ Q (.int (-i)) M := Iff.rfl
theorem w_lt : wpCmp .lt (.int i) (.int j) M k ↔ k (decide (i < j)) := Iff.rfl
theorem w_le : wpCmp .le (.int i) (.int j) M k ↔ k (decide (i ≤ j)) := Iff.rfl
theorem w_gt : wpCmp .gt (.int i) (.int j) M k ↔ k (decide (j < i)) := Iff.rfl
theorem w_ge : wpCmp .ge (.int i) (.int j) M k ↔ k (decide (j ≤ i)) := Iff.rfl
theorem w_eq : wpCmp .eq (.int i) (.int j) M k ↔ k (decide (i = j)) := wpEq_int (M := M)
theorem w_ne : wpCmp .ne (.int i) (.int j) M k ↔ k (!decide (i = j)) := wpEq_int (M := M) (k := fun b => k (!b))
theorem w_in : wpCmp .isIn d e M k ↔ wpIn d e M k := Iff.rfl
theorem w_nin : wpCmp .notIn d e M k ↔ wpIn d e M fun b => k (!b) := Iff.rfl
theorem w_tb : truthy (.bl b) M k ↔ k b := Iff.rfl
theorem w_ti : truthy (.int i) M k ↔ k (i != 0) := Iff.rfl
theorem w_tt : truthy (.tup ds) M k ↔ k (!ds.isEmpty) := Iff.rfl
theorem w_ix0 : wpIx (.tup (d :: ds)) (.int 0) M Q ↔ Q d M := by
  show (∃ c, atD (d :: ds) 0 = some c ∧ Q c M) ↔ _
  simp [atD]
theorem w_ix1 {a : D} : wpIx (.tup (a :: d :: ds)) (.int 1) M Q ↔ Q d M := by
  show (∃ c, atD (a :: d :: ds) 1 = some c ∧ Q c M) ↔ _
  simp [atD]
theorem w_ix2 {a a' : D} : wpIx (.tup (a :: a' :: d :: ds)) (.int 2) M Q ↔ Q d M := by
  show (∃ c, atD (a :: a' :: d :: ds) 2 = some c ∧ Q c M) ↔ _
  simp [atD]
theorem w_lenT : wpBlt .len [.tup ds] M Q ↔ Q (.int ds.length) M := Iff.rfl
theorem w_lenK : wpBlt .len [.kl ds] M Q ↔ Q (.int ds.length) M := Iff.rfl
theorem w_int : wpBlt .int [.int i] M Q ↔ Q (.int i) M := Iff.rfl
theorem w_max : wpBlt .max [.int i, .int j] M Q ↔ Q (.int (if j > i then j else i)) M := Iff.rfl
theorem w_min : wpBlt .min [.int i, .int j] M Q ↔ Q (.int (if j < i then j else i)) M := Iff.rfl
theorem w_repr : wpBlt .repr [d] M Q ↔ ∃ p, Deep M d p ∧ p.showable = true ∧ p.shown.length ≤ sizeLine ∧ p.depth ≤ 40 ∧ Q (.str p.shown) M := Iff.rfl
theorem w_rng1 : wpIt .range [.int i] M R ↔ small62 i ∧ R (dRange 0 i) (fun _ => True) M id := Iff.rfl
theorem w_rng2 : wpIt .range [.int i, .int j] M R ↔ (small62 i ∧ small62 j) ∧ R (dRange i j) (fun _ => True) M id := Iff.rfl
theorem w_one {n : Nat} : wpTg (.one n) d σ M kl ↔ kl (σ.set n (some d)) := Iff.rfl
theorem w_ixL {a : Addr} {ds : List D} (h : M a = some (.lst ds)) : wpIx (.ref a) (.int i) M Q ↔ ∃ d, atD ds i = some d ∧ Q d M := by
  simp only [wpIx, h]
theorem w_ixK : wpIx (.kl ds) (.int i) M Q ↔ ∃ d, atD ds i = some d ∧ Q d M := Iff.rfl
theorem w_lenL {a : Addr} {ds : List D} (h : M a = some (.lst ds)) : wpBlt .len [.ref a] M Q ↔ Q (.int ds.length) M := by
  simp only [wpBlt, h]
theorem w_app {a : Addr} {ds : List D} (h : M a = some (.lst ds)) : wpMth .append (.ref a) [d] M Q ↔ ds.length < sizeLine ∧ Q .non (mset M a (.lst (ds ++ [d]))) := by
  simp only [wpMth, h]
theorem w_rcvL {a : Addr} {ds : List D} (h : M a = some (.lst ds)) : rcv (.ref a) M = some .lst := by
  simp only [rcv, h]
theorem w_set {a : Addr} {ds : List D} {v : D} {km : Mp → Prop} (h : M a = some (.lst ds)) : wpSetIx (.ref a) (.int i) v M km ↔ (0 ≤ i ∧ i < ds.length) ∧ km (mset M a (.lst (ds.set i.toNat v))) := by
  simp only [wpSetIx, h]
theorem w_rev {a : Addr} {ds : List D} (h : M a = some (.lst ds)) : wpIt .reversed [.ref a] M R ↔ R ds.reverse (fun M' => M' a = some (.lst ds)) M id := by
  simp only [wpIt, h]
theorem w_itL {a : Addr} {ds : List D} (h : M a = some (.lst ds)) : wpIt .plain [.ref a] M R ↔ R ds (fun M' => M' a = some (.lst ds)) M id := by
  simp only [wpIt, h]
theorem w_fld {a : Addr} {c : Nat} {fs : List (Str × D)} {f : Str} (h : M a = some (.ins c fs)) : wpFld P (.ref a) f M Q ↔ P.fl c f = true ∧ ∃ v, fs.lookup f = some v ∧ Q v M := by
  simp only [wpFld, h]
theorem w_setFld {a : Addr} {c : Nat} {fs : List (Str × D)} {f : Str} {v : D} {km : Mp → Prop} (h : M a = some (.ins c fs)) : wpSetFld P (.ref a) f v M km ↔ (P.fl c f = true ∧ fs.length < 900) ∧ km (mset M a (.ins c (putFd f v fs))) := by
  simp only [wpSetFld, h]
theorem w_ixD {a : Addr} {kvs : List (D × D)} {y : D} (h : M a = some (.dct kvs)) : wpIx (.ref a) y M Q ↔ y.hk1 = true ∧ ∃ d, dget kvs y = some d ∧ Q d M := by
  cases y <;> simp only [wpIx, h]
theorem w_ixLk {a : Addr} {kvs : List (D × D)} {y : D} (h : M a = some (.lck kvs)) : wpIx (.ref a) y M Q ↔ y.hk1 = true ∧ ∃ d, dget kvs y = some d ∧ Q d M := by
  cases y <;> simp only [wpIx, h]
theorem w_inD {a : Addr} {kvs : List (D × D)} {y : D} (h : M a = some (.dct kvs)) : wpIn y (.ref a) M k ↔ y.hk1 = true ∧ k (dhas kvs y) := by
  simp only [wpIn, h]
theorem w_inL {a : Addr} {ds : List D} {y : D} (h : M a = some (.lst ds)) : wpIn y (.ref a) M k ↔ (y.flat = true ∧ ∀ d ∈ ds, d.flat = true) ∧ k (ds.any fun z => z.eqv y) := by
  simp only [wpIn, h]
theorem w_setD {a : Addr} {kvs : List (D × D)} {y v : D} {km : Mp → Prop} (h : M a = some (.dct kvs)) : wpSetIx (.ref a) y v M km ↔ (y.hk1 = true ∧ kvs.length < sizeLine) ∧ km (mset M a (.dct (dput kvs y v))) := by
  cases y <;> simp only [wpSetIx, h]
theorem w_itD {a : Addr} {kvs : List (D × D)} (h : M a = some (.dct kvs)) : wpIt .plain [.ref a] M R ↔ wpItD (·.map (·.1)) a kvs M R := by
  simp only [wpIt, h]
theorem w_itI {a : Addr} {kvs : List (D × D)} (h : M a = some (.dct kvs)) : wpIt .items [.ref a] M R ↔ wpItD (·.map fun p => .tup [p.1, p.2]) a kvs M R := by
  simp only [wpIt, h]
theorem w_addL {a b : Addr} {ds es : List D} (h : M a = some (.lst ds)) (h2 : M b = some (.lst es)) : wpBin .add (.ref a) (.ref b) M Q ↔ ds.length + es.length ≤ sizeLine ∧ wpNew M (.lst (ds ++ es)) Q := by
  simp only [wpBin, h, h2]
theorem w_ext {a b : Addr} {ds es : List D} (h : M a = some (.lst ds)) (h2 : M b = some (.lst es)) : wpMth .extend (.ref a) [.ref b] M Q ↔ ds.length + es.length ≤ sizeLine ∧ Q .non (mset M a (.lst (ds ++ es))) := by
  simp only [wpMth, h, wpExt, h2]
theorem w_itS {z : Str} : wpIt .plain [.str z] M R ↔ z.length ≤ sizeLine ∧ R (z.cps.toList.map fun c => .str ⟨#[c]⟩) (fun _ => True) M id := Iff.rfl
theorem w_lenS : wpBlt .len [.str x] M Q ↔ x.length ≤ sizeLine ∧ Q (.int x.length) M := Iff.rfl
theorem w_many {l : List Nat} : wpTg (.many l) (.tup ds) σ M kl ↔ ∃ σ', setMany l ds σ = some σ' ∧ kl σ' := Iff.rfl
theorem eqv_str : (D.str x).eqv (.str y) = decide (x = y) := by
  show NestedKey.beq (.text x) (.text y) = _
  simp [NestedKey.beq]
theorem w_eqS : wpCmp .eq (.str x) (.str y) M k ↔ k (decide (x = y)) := by
  show (_ ∧ k ((D.str x).eqv (.str y))) ↔ _
  rw [eqv_str]
  exact ⟨fun h => h.2, fun h => ⟨⟨rfl, rfl⟩, h⟩⟩
end
/-- as text -/
def Told (p : PyData) : Prop := p.showable = true ∧ p.shown.length ≤ sizeLine ∧ p.depth ≤ 40
end L3
end
section
set_option Elab.async false
set_option linter.all false
set_option maxRecDepth 100000
set_option maxHeartbeats 0
/-! the data of law_k51_line_once -/
namespace K51
open PySem L2 PyProof.Rows PySem.Spec L3
def top (i : Nat) : Stmt := PySem.Challenge.pw_vatlink_k51_line_once.main.body.getD i (.Pass ⟨0, 0, 0, 0⟩)
def inC (s : Stmt) (j : Nat) : Stmt := match s with
  | .ClassDef (body := b) .. => b.getD j (.Pass ⟨0, 0, 0, 0⟩)
  | _ => .Pass ⟨0, 0, 0, 0⟩
def b__law_draw : Ss := (.cons (.set (.one 2) (.ix (.var 0) (.int 1))) (.cons (.setIx (.var 0) (.int 1) (.bin .add (.var 2) (.int 1))) (.cons (.ite (.val (.cmp .lt (.var 2) (.blt .len (.cons (.ix (.var 0) (.int 0)) .nil)))) (.cons (.ret (.bin .mod (.blt .int (.cons (.ix (.ix (.var 0) (.int 0)) (.var 2)) .nil)) (.var 1))) .nil) .nil) (.cons (.ret (.bin .mod (.blt .int (.cons (.bin .add (.bin .mul (.var 2) (.int 7)) (.int 3)) .nil)) (.var 1))) .nil))))
def p__law_draw : DefP := ⟨"_law_draw", none, top 26, ["_law_box", "_law_many", "_law_at"], ["_law_box", "_law_many"], b__law_draw⟩
def b__law_same : Ss := (.cons (.ret (.cmp .eq (.blt .repr (.cons (.var 0) .nil)) (.blt .repr (.cons (.var 1) .nil)))) .nil)
def p__law_same : DefP := ⟨"_law_same", none, top 27, ["_law_actual", "_law_due"], ["_law_actual", "_law_due"], b__law_same⟩
def b_complete_in_0 : Ss := (.cons (.aug 1 .add (.int 1)) .nil)
def b_complete_in : Ss := (.cons (.set (.one 1) (.int 0)) (.cons (.wh (.val (.cmp .isIn (.bin .add (.var 1) (.int 1)) (.var 0))) b_complete_in_0) (.cons (.ret (.var 1)) .nil)))
def p_complete_in : DefP := ⟨"complete_in", none, top 22, ["known", "number"], ["known"], b_complete_in⟩
def b_Line_complete : Ss := (.cons (.ret (.call 2 (.cons (.fld (.var 0) "known") .nil))) .nil)
def p_Line_complete : DefP := ⟨"complete", some 0, inC (top 21) 4, ["self"], ["self"], b_Line_complete⟩
def b_write_count_0 : Ss := (.cons (.expr (.mth (.var 1) .append (.cons (.bin .add (.int 128) (.bin .mod (.var 0) (.int 128))) .nil))) (.cons (.set (.one 0) (.bin .fdiv (.var 0) (.int 128))) .nil))
def b_write_count : Ss := (.cons (.set (.one 1) (.lst .nil)) (.cons (.wh (.val (.cmp .ge (.var 0) (.int 128))) b_write_count_0) (.cons (.expr (.mth (.var 1) .append (.cons (.var 0) .nil))) (.cons (.ret (.var 1)) .nil))))
def p_write_count : DefP := ⟨"write_count", none, top 4, ["number", "digits"], ["number"], b_write_count⟩
def b_write_text_0 : Ss := (.cons (.expr (.mth (.var 1) .extend (.cons (.call 4 (.cons (.mth (.con (.str " !\"#$&'()*+,-./0123456789:;<=>?@ABCDEFGHIJKLMNOPQRSTUVWXYZ[\\]^_`abcdefghijklmnopqrstuvwxyz{|}~")) .index (.cons (.var 2) .nil)) .nil)) .nil))) .nil)
def b_write_text : Ss := (.cons (.set (.one 1) (.call 4 (.cons (.blt .len (.cons (.var 0) .nil)) .nil))) (.cons (.for (.one 2) .plain (.cons (.var 0) .nil) b_write_text_0) (.cons (.ret (.var 1)) .nil)))
def p_write_text : DefP := ⟨"write_text", none, top 5, ["text", "numbers", "sign"], ["text"], b_write_text⟩
def b_write_content : Ss := (.cons (.set (.one 1) (.ix (.var 0) (.int 0))) (.cons (.ite (.val (.cmp .eq (.var 1) (.str "message"))) (.cons (.set (.many [2, 3, 4, 5, 6, 7]) (.var 0)) (.cons .bad (.cons .bad .nil))) .nil) (.cons (.ite (.val (.cmp .isIn (.var 1) (.tup (.cons (.str "fulfill") (.cons (.str "resolved") .nil))))) (.cons .bad .nil) .nil) (.cons (.ite (.val (.cmp .isIn (.var 1) (.tup (.cons (.str "break") (.cons (.str "resolved_broken") .nil))))) (.cons (.ret (.bin .add (.call 4 (.cons (.ix (.var 0) (.int 1)) .nil)) (.call 5 (.cons (.ix (.var 0) (.int 2)) .nil)))) .nil) .nil) (.cons (.ite (.val (.cmp .isIn (.var 1) (.tup (.cons (.str "subscribe") (.cons (.str "release_answer") .nil))))) (.cons .bad .nil) .nil) (.cons (.ite (.val (.cmp .eq (.var 1) (.str "release"))) (.cons .bad .nil) .nil) (.cons .bad .nil)))))))
def p_write_content : DefP := ⟨"write_content", none, top 18, ["content", "kind", "_", "message", "target", "weight", "question", "shares", "numbers"], ["content"], b_write_content⟩
def b_write_packet : Ss := (.cons (.set (.many [1, 2, 3, 4]) (.var 0)) (.cons (.set (.one 5) (.bin .add (.bin .add (.bin .add (.lst (.cons (.con (.int 1)) .nil)) (.call 4 (.cons (.var 1) .nil))) (.call 4 (.cons (.var 2) .nil))) (.call 4 (.cons (.var 3) .nil)))) (.cons (.ret (.bin .add (.bin .add (.var 5) (.lst (.cons (.cidx [(.str "message"), (.str "fulfill"), (.str "break"), (.str "subscribe"), (.str "resolved"), (.str "resolved_broken"), (.str "release"), (.str "release_answer"), (.str "transfer")] (.cons (.ix (.var 4) (.int 0)) .nil)) .nil))) (.call 6 (.cons (.var 4) .nil)))) .nil)))
def p_write_packet : DefP := ⟨"write_packet", none, top 19, ["packet", "sender", "receiver", "number", "content", "head"], ["packet"], b_write_packet⟩
def b_Line_put : Ss := (.cons (.augFld (.var 0) "sent" .add (.int 1)) (.cons (.setIx (.fld (.var 0) "kept") (.fld (.var 0) "sent") (.call 7 (.cons (.tup (.cons (.fld (.var 0) "vat") (.cons (.fld (.var 0) "other") (.cons (.fld (.var 0) "sent") (.cons (.var 1) .nil))))) .nil))) (.cons (.ret (.fld (.var 0) "sent")) .nil)))
def p_Line_put : DefP := ⟨"put", some 0, inC (top 21) 1, ["self", "content"], ["self", "content"], b_Line_put⟩
def b_Line_acknowledged : Ss := (.cons (.setFld (.var 0) "kept" (.dcomp [2, 3] (.var 2) (.var 3) (.many [2, 3]) .items (.cons (.fld (.var 0) "kept") .nil) (.val (.cmp .gt (.var 2) (.var 1))))) .nil)
def p_Line_acknowledged : DefP := ⟨"acknowledged", some 0, inC (top 21) 3, ["self", "count", "number", "numbers"], ["self", "count"], b_Line_acknowledged⟩
def b_Line_accept : Ss := (.cons (.ite (.val (.cmp .isIn (.var 1) (.fld (.var 0) "known"))) (.cons (.ret (.bl false)) .nil) .nil) (.cons (.setIx (.fld (.var 0) "known") (.var 1) (.bl true)) (.cons (.ret (.bl true)) .nil)))
def p_Line_accept : DefP := ⟨"accept", some 0, inC (top 21) 2, ["self", "number"], ["self", "number"], b_Line_accept⟩
def b_Line___init__ : Ss := (.cons (.setFld (.var 0) "vat" (.var 1)) (.cons (.setFld (.var 0) "other" (.var 2)) (.cons (.setFld (.var 0) "sent" (.int 0)) (.cons (.setFld (.var 0) "kept" (.dct .nil)) (.cons (.setFld (.var 0) "known" (.dct .nil)) .nil)))))
def p_Line___init__ : DefP := ⟨"__init__", some 0, inC (top 21) 0, ["self", "vat", "other"], ["self", "vat", "other"], b_Line___init__⟩
def b__law_cell : Ss := (.cons (.ite (.val (.cmp .lt (.var 1) (.blt .len (.cons (.var 0) .nil)))) (.cons (.ret (.ix (.var 0) (.var 1))) .nil) .nil) (.cons (.ret (.int 0)) .nil))
def p__law_cell : DefP := ⟨"_law_cell", none, top 24, ["_law_script", "_law_k"], ["_law_script", "_law_k"], b__law_cell⟩
def b__law_digits_0 : Ss := (.cons (.ite (.val (.cmp .gt (.var 5) (.int 0))) (.cons (.expr (.mth (.var 3) .append (.cons (.bin .mod (.blt .int (.cons (.var 5) .nil)) (.int 1000)) .nil))) (.cons (.set (.one 5) (.bin .fdiv (.var 5) (.int 1000))) .nil)) .nil) .nil)
def b__law_digits_1 : Ss := (.cons (.set (.one 7) (.bin .mod (.blt .int (.cons (.bin .add (.bin .add (.bin .mul (.var 7) (.int 16807)) (.bin .mul (.int 7) (.var 6))) (.int 1)) .nil)) (.int 2147483647))) (.cons (.expr (.mth (.var 3) .append (.cons (.bin .mod (.blt .int (.cons (.bin .fdiv (.var 7) (.int 997)) .nil)) (.int 1000)) .nil))) .nil))
def b__law_digits_2 : Ss := (.cons (.set (.one 5) (.call 12 (.cons (.var 0) (.cons (.var 4) .nil)))) (.cons (.ite (.val (.cmp .lt (.var 5) (.int 0))) (.cons (.set (.one 5) (.bin .sub (.int 1) (.bin .mul (.int 2) (.var 5)))) .nil) .nil) (.cons (.ite (.val (.cmp .ge (.var 5) (.bin .pow (.int 10) (.int 18)))) (.cons (.for (.one 6) .range (.cons (.int 60) .nil) b__law_digits_0) .nil) (.cons (.set (.one 7) (.bin .mod (.blt .int (.cons (.bin .add (.bin .add (.bin .mul (.var 5) (.int 48271)) (.bin .mul (.var 4) (.int 69621))) (.int 11)) .nil)) (.int 2147483647))) (.cons (.for (.one 6) .range (.cons (.int 12) .nil) b__law_digits_1) .nil))) .nil)))
def b__law_digits : Ss := (.cons (.set (.one 3) (.lst .nil)) (.cons (.for (.one 4) .range (.cons (.var 1) (.cons (.var 2) .nil)) b__law_digits_2) (.cons (.ret (.var 3)) .nil)))
def p__law_digits : DefP := ⟨"_law_digits", none, top 25, ["_law_script", "_law_first", "_law_last", "_law_digits_here", "_law_k", "_law_cell_here", "_law_place", "_law_seed"], ["_law_script", "_law_first", "_law_last"], b__law_digits⟩
def b_law_0 : Ss := (.cons (.ite (.and (.val (.cmp .eq (.var 14) (.bin .sub (.var 13) (.int 1)))) (.val (.cmp .isIn (.var 13) (.var 6)))) (.cons (.set (.one 14) (.var 13)) .nil) .nil) .nil)
def b_law_1 : Ss := (.cons (.ite (.val (.cmp .gt (.var 13) (.var 11))) (.cons (.setIx (.var 12) (.var 13) (.ix (.var 5) (.var 13))) .nil) .nil) .nil)
def b_law_2 : Ss := (.cons (.set (.one 9) (.call 0 (.cons (.var 1) (.cons (.int 4) .nil)))) (.cons (.ite (.val (.cmp .eq (.var 9) (.int 0))) (.cons (.set (.one 7) (.bin .add (.var 7) (.int 1))) (.cons (.set (.one 10) (.tup (.cons (.str "break") (.cons (.bin .add (.int 1) (.call 0 (.cons (.var 1) (.cons (.int 500) .nil)))) (.cons (.bin .mul (.str "f") (.call 0 (.cons (.var 1) (.cons (.int 5) .nil)))) .nil))))) (.cons (.setIx (.var 5) (.var 7) (.call 7 (.cons (.tup (.cons (.var 2) (.cons (.var 3) (.cons (.var 7) (.cons (.var 10) .nil))))) .nil))) (.cons (.ite (.not (.val (.call 1 (.cons (.umth (.var 4) "put" 0 8 (.cons (.var 10) .nil)) (.cons (.var 7) .nil))))) (.cons (.ret (.bl false)) .nil) .nil) .nil)))) (.cons (.ite (.val (.cmp .eq (.var 9) (.int 1))) (.cons (.set (.one 11) (.call 0 (.cons (.var 1) (.cons (.bin .add (.var 7) (.int 1)) .nil)))) (.cons (.expr (.umth (.var 4) "acknowledged" 0 9 (.cons (.var 11) .nil))) (.cons (.set (.one 12) (.dct .nil)) (.cons (.for (.one 13) .plain (.cons (.var 5) .nil) b_law_1) (.cons (.set (.one 5) (.var 12)) .nil))))) (.cons (.set (.one 13) (.bin .add (.int 1) (.call 0 (.cons (.var 1) (.cons (.int 9) .nil))))) (.cons (.ite (.not (.val (.call 1 (.cons (.umth (.var 4) "accept" 0 10 (.cons (.var 13) .nil)) (.cons (.cmp .notIn (.var 13) (.var 6)) .nil))))) (.cons (.ret (.bl false)) .nil) .nil) (.cons (.expr (.mth (.var 6) .append (.cons (.var 13) .nil))) .nil)))) .nil)) (.cons (.set (.one 14) (.int 0)) (.cons (.for (.one 13) .range (.cons (.int 1) (.cons (.int 11) .nil)) b_law_0) (.cons (.ite (.or (.not (.val (.call 1 (.cons (.umth (.var 4) "complete" 0 3 .nil) (.cons (.var 14) .nil))))) (.or (.not (.val (.call 1 (.cons (.fld (.var 4) "kept") (.cons (.var 5) .nil))))) (.not (.val (.call 1 (.cons (.fld (.var 4) "sent") (.cons (.var 7) .nil))))))) (.cons (.ret (.bl false)) .nil) .nil) .nil)))))
def b_law : Ss := (.cons (.set (.one 1) (.lst (.cons (.call 13 (.cons (.var 0) (.cons (.int 0) (.cons (.int 40) .nil)))) (.cons (.int 0) .nil)))) (.cons (.set (.one 2) (.bin .add (.int 1) (.call 0 (.cons (.var 1) (.cons (.int 9) .nil))))) (.cons (.set (.one 3) (.bin .add (.int 1) (.bin .mod (.blt .int (.cons (.bin .add (.var 2) (.call 0 (.cons (.var 1) (.cons (.int 8) .nil)))) .nil)) (.int 9)))) (.cons (.set (.one 4) (.make 0 11 (.cons (.var 2) (.cons (.var 3) .nil)))) (.cons (.set (.one 5) (.dct .nil)) (.cons (.set (.one 6) (.lst .nil)) (.cons (.set (.one 7) (.int 0)) (.cons (.for (.one 8) .range (.cons (.call 0 (.cons (.var 1) (.cons (.int 30) .nil))) .nil) b_law_2) (.cons (.ret (.bl true)) .nil)))))))))
def p_law : DefP := ⟨"law", none, top 28, ["_law_script", "_law_box", "_law_vat", "_law_other", "_law_line", "_law_due", "_law_came", "_law_many", "_law_k", "_law_kind", "_law_content", "_law_count", "_law_left", "_law_number", "_law_complete"], ["_law_script"], b_law⟩
def md : Md := ⟨[p__law_draw, p__law_same, p_complete_in, p_Line_complete, p_write_count, p_write_text, p_write_content, p_write_packet, p_Line_put, p_Line_acknowledged, p_Line_accept, p_Line___init__, p__law_cell, p__law_digits, p_law], [("CHARACTERS", .con (.str " !\"#$&'()*+,-./0123456789:;<=>?@ABCDEFGHIJKLMNOPQRSTUVWXYZ[\\]^_`abcdefghijklmnopqrstuvwxyz{|}~")), ("CONTENTS", .con (.tup [(.str "message"), (.str "fulfill"), (.str "break"), (.str "subscribe"), (.str "resolved"), (.str "resolved_broken"), (.str "release"), (.str "release_answer"), (.str "transfer")])), ("VERSION", .con (.int 1)), ("int", .blt), ("len", .blt), ("range", .blt), ("repr", .blt)], ["Line"], [(0, "kept"), (0, "known"), (0, "other"), (0, "sent"), (0, "vat")]⟩
-- places: _law_draw=0 _law_same=1 complete_in=2 Line.complete=3 write_count=4 write_text=5 write_content=6 write_packet=7 Line.put=8 Line.acknowledged=9 Line.accept=10 Line.__init__=11 _law_cell=12 _law_digits=13 law=14
-- not told: write_content 76 skipped write_value
-- not told: write_content 75 skipped write_reference
-- not told: write_content 73 skipped write_weight
-- not told: write_content 69 skipped write_value
-- not told: write_content 67 skipped write_weights
-- not told: write_content 66 skipped write_message
theorem sc__law_draw : FnScope p__law_draw.N p__law_draw.ps (C8.fnScope p__law_draw.st) := C8.fnScope_by (by decide +kernel)
theorem ir__law_draw : cSs 200 ⟨p__law_draw.N, C8.fnScope p__law_draw.st, md.glk 0, true⟩ (C8.fnBody p__law_draw.st) = some p__law_draw.ir := by kernel_rfl
theorem bd__law_draw : ∀ (kV doc pm : Value) (an : Option Addr) (cdv ct : Value) (us : List Value), us.length = p__law_draw.ps.length → bindArgs (PySem.W.fnOf p__law_draw.x (md.qual p__law_draw) (C8.fnArgs p__law_draw.st) (C8.fnBody p__law_draw.st) (C8.fnScope p__law_draw.st) .none kV doc pm an cdv ct) ⟨us, []⟩ = pure (p__law_draw.ps.zip us) := fun _ _ _ _ _ _ us hl => match us, hl with | [_, _], _ => rfl
theorem sc__law_same : FnScope p__law_same.N p__law_same.ps (C8.fnScope p__law_same.st) := C8.fnScope_by (by decide +kernel)
theorem ir__law_same : cSs 200 ⟨p__law_same.N, C8.fnScope p__law_same.st, md.glk 1, true⟩ (C8.fnBody p__law_same.st) = some p__law_same.ir := by kernel_rfl
theorem bd__law_same : ∀ (kV doc pm : Value) (an : Option Addr) (cdv ct : Value) (us : List Value), us.length = p__law_same.ps.length → bindArgs (PySem.W.fnOf p__law_same.x (md.qual p__law_same) (C8.fnArgs p__law_same.st) (C8.fnBody p__law_same.st) (C8.fnScope p__law_same.st) .none kV doc pm an cdv ct) ⟨us, []⟩ = pure (p__law_same.ps.zip us) := fun _ _ _ _ _ _ us hl => match us, hl with | [_, _], _ => rfl
theorem sc_complete_in : FnScope p_complete_in.N p_complete_in.ps (C8.fnScope p_complete_in.st) := C8.fnScope_by (by decide +kernel)
theorem ir_complete_in : cSs 200 ⟨p_complete_in.N, C8.fnScope p_complete_in.st, md.glk 2, true⟩ (C8.fnBody p_complete_in.st) = some p_complete_in.ir := by kernel_rfl
theorem bd_complete_in : ∀ (kV doc pm : Value) (an : Option Addr) (cdv ct : Value) (us : List Value), us.length = p_complete_in.ps.length → bindArgs (PySem.W.fnOf p_complete_in.x (md.qual p_complete_in) (C8.fnArgs p_complete_in.st) (C8.fnBody p_complete_in.st) (C8.fnScope p_complete_in.st) .none kV doc pm an cdv ct) ⟨us, []⟩ = pure (p_complete_in.ps.zip us) := fun _ _ _ _ _ _ us hl => match us, hl with | [_], _ => rfl
theorem sc_Line_complete : FnScope p_Line_complete.N p_Line_complete.ps (C8.fnScope p_Line_complete.st) := C8.fnScope_by (by decide +kernel)
theorem ir_Line_complete : cSs 200 ⟨p_Line_complete.N, C8.fnScope p_Line_complete.st, md.glk 3, true⟩ (C8.fnBody p_Line_complete.st) = some p_Line_complete.ir := by kernel_rfl
theorem bd_Line_complete : ∀ (kV doc pm : Value) (an : Option Addr) (cdv ct : Value) (us : List Value), us.length = p_Line_complete.ps.length → bindArgs (PySem.W.fnOf p_Line_complete.x (md.qual p_Line_complete) (C8.fnArgs p_Line_complete.st) (C8.fnBody p_Line_complete.st) (C8.fnScope p_Line_complete.st) .none kV doc pm an cdv ct) ⟨us, []⟩ = pure (p_Line_complete.ps.zip us) := fun _ _ _ _ _ _ us hl => match us, hl with | [_], _ => rfl
theorem sc_write_count : FnScope p_write_count.N p_write_count.ps (C8.fnScope p_write_count.st) := C8.fnScope_by (by decide +kernel)
theorem ir_write_count : cSs 200 ⟨p_write_count.N, C8.fnScope p_write_count.st, md.glk 4, true⟩ (C8.fnBody p_write_count.st) = some p_write_count.ir := by kernel_rfl
theorem bd_write_count : ∀ (kV doc pm : Value) (an : Option Addr) (cdv ct : Value) (us : List Value), us.length = p_write_count.ps.length → bindArgs (PySem.W.fnOf p_write_count.x (md.qual p_write_count) (C8.fnArgs p_write_count.st) (C8.fnBody p_write_count.st) (C8.fnScope p_write_count.st) .none kV doc pm an cdv ct) ⟨us, []⟩ = pure (p_write_count.ps.zip us) := fun _ _ _ _ _ _ us hl => match us, hl with | [_], _ => rfl
theorem sc_write_text : FnScope p_write_text.N p_write_text.ps (C8.fnScope p_write_text.st) := C8.fnScope_by (by decide +kernel)
theorem ir_write_text : cSs 200 ⟨p_write_text.N, C8.fnScope p_write_text.st, md.glk 5, true⟩ (C8.fnBody p_write_text.st) = some p_write_text.ir := by kernel_rfl
theorem bd_write_text : ∀ (kV doc pm : Value) (an : Option Addr) (cdv ct : Value) (us : List Value), us.length = p_write_text.ps.length → bindArgs (PySem.W.fnOf p_write_text.x (md.qual p_write_text) (C8.fnArgs p_write_text.st) (C8.fnBody p_write_text.st) (C8.fnScope p_write_text.st) .none kV doc pm an cdv ct) ⟨us, []⟩ = pure (p_write_text.ps.zip us) := fun _ _ _ _ _ _ us hl => match us, hl with | [_], _ => rfl
theorem sc_write_content : FnScope p_write_content.N p_write_content.ps (C8.fnScope p_write_content.st) := C8.fnScope_by (by decide +kernel)
theorem ir_write_content : cSs 200 ⟨p_write_content.N, C8.fnScope p_write_content.st, md.glk 6, true⟩ (C8.fnBody p_write_content.st) = some p_write_content.ir := by kernel_rfl
theorem bd_write_content : ∀ (kV doc pm : Value) (an : Option Addr) (cdv ct : Value) (us : List Value), us.length = p_write_content.ps.length → bindArgs (PySem.W.fnOf p_write_content.x (md.qual p_write_content) (C8.fnArgs p_write_content.st) (C8.fnBody p_write_content.st) (C8.fnScope p_write_content.st) .none kV doc pm an cdv ct) ⟨us, []⟩ = pure (p_write_content.ps.zip us) := fun _ _ _ _ _ _ us hl => match us, hl with | [_], _ => rfl
theorem sc_write_packet : FnScope p_write_packet.N p_write_packet.ps (C8.fnScope p_write_packet.st) := C8.fnScope_by (by decide +kernel)
theorem ir_write_packet : cSs 200 ⟨p_write_packet.N, C8.fnScope p_write_packet.st, md.glk 7, true⟩ (C8.fnBody p_write_packet.st) = some p_write_packet.ir := by kernel_rfl
theorem bd_write_packet : ∀ (kV doc pm : Value) (an : Option Addr) (cdv ct : Value) (us : List Value), us.length = p_write_packet.ps.length → bindArgs (PySem.W.fnOf p_write_packet.x (md.qual p_write_packet) (C8.fnArgs p_write_packet.st) (C8.fnBody p_write_packet.st) (C8.fnScope p_write_packet.st) .none kV doc pm an cdv ct) ⟨us, []⟩ = pure (p_write_packet.ps.zip us) := fun _ _ _ _ _ _ us hl => match us, hl with | [_], _ => rfl
theorem sc_Line_put : FnScope p_Line_put.N p_Line_put.ps (C8.fnScope p_Line_put.st) := C8.fnScope_by (by decide +kernel)
theorem ir_Line_put : cSs 200 ⟨p_Line_put.N, C8.fnScope p_Line_put.st, md.glk 8, true⟩ (C8.fnBody p_Line_put.st) = some p_Line_put.ir := by kernel_rfl
theorem bd_Line_put : ∀ (kV doc pm : Value) (an : Option Addr) (cdv ct : Value) (us : List Value), us.length = p_Line_put.ps.length → bindArgs (PySem.W.fnOf p_Line_put.x (md.qual p_Line_put) (C8.fnArgs p_Line_put.st) (C8.fnBody p_Line_put.st) (C8.fnScope p_Line_put.st) .none kV doc pm an cdv ct) ⟨us, []⟩ = pure (p_Line_put.ps.zip us) := fun _ _ _ _ _ _ us hl => match us, hl with | [_, _], _ => rfl
theorem sc_Line_acknowledged : FnScope p_Line_acknowledged.N p_Line_acknowledged.ps (C8.fnScope p_Line_acknowledged.st) := C8.fnScope_by (by decide +kernel)
theorem ir_Line_acknowledged : cSs 200 ⟨p_Line_acknowledged.N, C8.fnScope p_Line_acknowledged.st, md.glk 9, true⟩ (C8.fnBody p_Line_acknowledged.st) = some p_Line_acknowledged.ir := by kernel_rfl
theorem bd_Line_acknowledged : ∀ (kV doc pm : Value) (an : Option Addr) (cdv ct : Value) (us : List Value), us.length = p_Line_acknowledged.ps.length → bindArgs (PySem.W.fnOf p_Line_acknowledged.x (md.qual p_Line_acknowledged) (C8.fnArgs p_Line_acknowledged.st) (C8.fnBody p_Line_acknowledged.st) (C8.fnScope p_Line_acknowledged.st) .none kV doc pm an cdv ct) ⟨us, []⟩ = pure (p_Line_acknowledged.ps.zip us) := fun _ _ _ _ _ _ us hl => match us, hl with | [_, _], _ => rfl
theorem sc_Line_accept : FnScope p_Line_accept.N p_Line_accept.ps (C8.fnScope p_Line_accept.st) := C8.fnScope_by (by decide +kernel)
theorem ir_Line_accept : cSs 200 ⟨p_Line_accept.N, C8.fnScope p_Line_accept.st, md.glk 10, true⟩ (C8.fnBody p_Line_accept.st) = some p_Line_accept.ir := by kernel_rfl
theorem bd_Line_accept : ∀ (kV doc pm : Value) (an : Option Addr) (cdv ct : Value) (us : List Value), us.length = p_Line_accept.ps.length → bindArgs (PySem.W.fnOf p_Line_accept.x (md.qual p_Line_accept) (C8.fnArgs p_Line_accept.st) (C8.fnBody p_Line_accept.st) (C8.fnScope p_Line_accept.st) .none kV doc pm an cdv ct) ⟨us, []⟩ = pure (p_Line_accept.ps.zip us) := fun _ _ _ _ _ _ us hl => match us, hl with | [_, _], _ => rfl
theorem sc_Line___init__ : FnScope p_Line___init__.N p_Line___init__.ps (C8.fnScope p_Line___init__.st) := C8.fnScope_by (by decide +kernel)
theorem ir_Line___init__ : cSs 200 ⟨p_Line___init__.N, C8.fnScope p_Line___init__.st, md.glk 11, true⟩ (C8.fnBody p_Line___init__.st) = some p_Line___init__.ir := by kernel_rfl
theorem bd_Line___init__ : ∀ (kV doc pm : Value) (an : Option Addr) (cdv ct : Value) (us : List Value), us.length = p_Line___init__.ps.length → bindArgs (PySem.W.fnOf p_Line___init__.x (md.qual p_Line___init__) (C8.fnArgs p_Line___init__.st) (C8.fnBody p_Line___init__.st) (C8.fnScope p_Line___init__.st) .none kV doc pm an cdv ct) ⟨us, []⟩ = pure (p_Line___init__.ps.zip us) := fun _ _ _ _ _ _ us hl => match us, hl with | [_, _, _], _ => rfl
theorem sc__law_cell : FnScope p__law_cell.N p__law_cell.ps (C8.fnScope p__law_cell.st) := C8.fnScope_by (by decide +kernel)
theorem ir__law_cell : cSs 200 ⟨p__law_cell.N, C8.fnScope p__law_cell.st, md.glk 12, true⟩ (C8.fnBody p__law_cell.st) = some p__law_cell.ir := by kernel_rfl
theorem bd__law_cell : ∀ (kV doc pm : Value) (an : Option Addr) (cdv ct : Value) (us : List Value), us.length = p__law_cell.ps.length → bindArgs (PySem.W.fnOf p__law_cell.x (md.qual p__law_cell) (C8.fnArgs p__law_cell.st) (C8.fnBody p__law_cell.st) (C8.fnScope p__law_cell.st) .none kV doc pm an cdv ct) ⟨us, []⟩ = pure (p__law_cell.ps.zip us) := fun _ _ _ _ _ _ us hl => match us, hl with | [_, _], _ => rfl
theorem sc__law_digits : FnScope p__law_digits.N p__law_digits.ps (C8.fnScope p__law_digits.st) := C8.fnScope_by (by decide +kernel)
theorem ir__law_digits : cSs 200 ⟨p__law_digits.N, C8.fnScope p__law_digits.st, md.glk 13, true⟩ (C8.fnBody p__law_digits.st) = some p__law_digits.ir := by kernel_rfl
theorem bd__law_digits : ∀ (kV doc pm : Value) (an : Option Addr) (cdv ct : Value) (us : List Value), us.length = p__law_digits.ps.length → bindArgs (PySem.W.fnOf p__law_digits.x (md.qual p__law_digits) (C8.fnArgs p__law_digits.st) (C8.fnBody p__law_digits.st) (C8.fnScope p__law_digits.st) .none kV doc pm an cdv ct) ⟨us, []⟩ = pure (p__law_digits.ps.zip us) := fun _ _ _ _ _ _ us hl => match us, hl with | [_, _, _], _ => rfl
theorem sc_law : FnScope p_law.N p_law.ps (C8.fnScope p_law.st) := C8.fnScope_by (by decide +kernel)
theorem ir_law : cSs 200 ⟨p_law.N, C8.fnScope p_law.st, md.glk 14, true⟩ (C8.fnBody p_law.st) = some p_law.ir := by kernel_rfl
theorem bd_law : ∀ (kV doc pm : Value) (an : Option Addr) (cdv ct : Value) (us : List Value), us.length = p_law.ps.length → bindArgs (PySem.W.fnOf p_law.x (md.qual p_law) (C8.fnArgs p_law.st) (C8.fnBody p_law.st) (C8.fnScope p_law.st) .none kV doc pm an cdv ct) ⟨us, []⟩ = pure (p_law.ps.zip us) := fun _ _ _ _ _ _ us hl => match us, hl with | [_], _ => rfl
end K51
end
section
set_option Elab.async false
set_option linter.all false
set_option maxRecDepth 100000
set_option maxHeartbeats 0
namespace K51
open PySem L2 PyProof.Rows PySem.Spec L3
abbrev R : PySem.W.OpenRow := PySem.W.OpenLaw.row PySem.Challenge.rw_vatlink_k51_line_once
def loose : List Str := ["CHARACTERS", "KINDS", "PLAIN_ATOMS", "VERSION", "CONTENTS", "TARGETS", "write_count", "write_text", "write_weight", "write_reference", "write_atom", "write_value", "write_send", "write_weights", "write_message", "write_target", "write_content", "write_packet", "Line", "complete_in", "_law_cell", "_law_digits", "_law_draw", "_law_same"]
theorem run (w : World) : HandSHeadRun.RunEq R (PySem.W.view R.prog [28]) (hookOf md) (obOf md) 4000 loose w := by
  intro os
  kernel_rfl
end K51
end
section
set_option Elab.async false
set_option autoImplicit false
set_option linter.all false
set_option maxRecDepth 100000
/-! k51: promises and readings -/
namespace K51
open L3
open PySem (Addr Str PyData)

def BoxAt (M : Mp) (b d : Addr) (xs : List Int) (at_ : Nat) : Prop := M b = some (.lst [.ref d, .int at_]) ∧ M d = some (.lst (xs.map .int)) ∧ b ≠ d
def Box (M : Mp) (b d : Addr) : Prop := ∃ xs at_, BoxAt M b d xs at_
def kv (rs : List (Int × D)) : List (D × D) := rs.map fun r => (D.int r.1, r.2)
/-- all but b stays -/
def But (b : Addr) (M M' : Mp) : Prop := ∀ c, c ≠ b → M' c = M c
theorem But.trans {b : Addr} {M M1 M2 : Mp} (h : But b M M1) (h2 : But b M1 M2) : But b M M2 := fun c hc => (h2 c hc).trans (h c hc)
/-- what is told stays -/
def Grow (M M' : Mp) : Prop := ∀ c o, M c = some o → M' c = some o
theorem Grow.trans {M M1 M2 : Mp} (h : Grow M M1) (h2 : Grow M1 M2) : Grow M M2 := fun c o e => h2 c o (h c o e)
theorem Grow.new {M : Mp} {p : Addr} {o : MO} (h : M p = none) : Grow M (mset M p o) := fun c o e => by
  have ne : c ≠ p := by rintro rfl; rw [h] at e; cases e
  rw [mset_ne ne]; exact e
/-- .. and at a as it is, which M did not tell -/
theorem Grow.wr {M M1 : Mp} {p : Addr} {o : MO} (g : Grow M M1) (h : M p = none) : Grow M (mset M1 p o) := fun c o e => by
  have ne : c ≠ p := by rintro rfl; rw [h] at e; cases e
  rw [mset_ne ne]; exact g c _ e
theorem Grow.none {M M1 : Mp} (g : Grow M M1) {p : Addr} (h : M1 p = none) : M p = none := by
  cases e : M p with
  | none => rfl
  | some o => rw [g p o e] at h; cases h
def Told2 (d : D) (e : D) (M : Mp) : Prop := ∃ p, Deep M d p ∧ Deep M e p ∧ p.showable = true ∧ p.shown.length ≤ PySem.sizeLine ∧ p.depth ≤ 40
/-- a count's digits -/
def wc (n : Nat) : List Int := if h : 128 ≤ n then (128 + (n : Int) % 128) :: wc (n / 128) else [(n : Int)]
termination_by n
decreasing_by omega
def LstAt (M : Mp) (p : Addr) (xs : List Int) : Prop := M p = some (.lst (xs.map .int))
/-- the packet's numbers -/
def fIx : Nat := 69
def pk (v o n c k : Nat) : List Int := (([1] ++ wc v ++ wc o ++ wc n) ++ [2]) ++ (wc c ++ (wc k ++ List.replicate k 69))
def fs (v o s : Int) (a b : Addr) : List (Str × D) := [("vat", .int v), ("other", .int o), ("sent", .int s), ("kept", .ref a), ("known", .ref b)]
def effs (k : Nat) : Str := ⟨(List.replicate k 102).toArray⟩
def cont (c k : Nat) : D := .tup [.str "break", .int (c : Int), .str (effs k)]
def sp0 : L3.Spec := fun xs M Q _ => ∃ (b d : Addr) (m : Int), xs = [.ref b, .int m] ∧ 0 < m ∧ Box M b d ∧ ∀ (r : Int) (M' : Mp), 0 ≤ r → r < m → Box M' b d → But b M M' → Q (.int r) M'
def sp1 : L3.Spec := fun xs M Q _ => ∃ d e, xs = [d, e] ∧ Told2 d e M ∧ Q (.bl true) M
/-- the greatest c so that 1 .. c are there -/
def Comp (ns : List Nat) (c : Nat) : Prop := (∀ j, 1 ≤ j → j ≤ c → j ∈ ns) ∧ c + 1 ∉ ns
def known (ns : List Nat) : List (D × D) := ns.map fun (n : Nat) => (D.int (n : Int), D.bl true)
def sp2 : L3.Spec := fun xs M Q _ => ∃ (k : Addr) (ns : List Nat), xs = [.ref k] ∧ M k = some (.dct (known ns)) ∧ (∀ n ∈ ns, n ≤ 10) ∧ ∀ c, Comp ns c → Q (.int (c : Nat)) M
def sp3 : L3.Spec := fun xs M Q _ => ∃ (p a b : Addr) (v o s : Int) (ns : List Nat), xs = [.ref p] ∧ M p = some (.ins 0 (fs v o s a b)) ∧ M b = some (.dct (known ns)) ∧ (∀ n ∈ ns, n ≤ 10) ∧ ∀ c, Comp ns c → Q (.int (c : Nat)) M
def sp4 : L3.Spec := fun xs M Q _ => ∃ n : Nat, xs = [.int n] ∧ n ≤ 100000 ∧ ∀ (p : Addr) (M' : Mp), M p = none → LstAt M' p (wc n) → Grow M M' → Q (.ref p) M'
def sp5 : L3.Spec := fun xs M Q _ => ∃ k : Nat, xs = [.str (effs k)] ∧ k ≤ 4 ∧ ∀ (p : Addr) (M' : Mp), M p = none → LstAt M' p (wc k ++ List.replicate k 69) → Grow M M' → Q (.ref p) M'
def sp6 : L3.Spec := fun xs M Q _ => ∃ c k : Nat, xs = [cont c k] ∧ c ≤ 1000 ∧ k ≤ 4 ∧ ∀ (p : Addr) (M' : Mp), M p = none → LstAt M' p (wc c ++ (wc k ++ List.replicate k 69)) → Grow M M' → Q (.ref p) M'
def sp7 : L3.Spec := fun xs M Q _ => ∃ v o n c k : Nat, xs = [.tup [.int v, .int o, .int n, cont c k]] ∧ (v ≤ 100 ∧ o ≤ 100 ∧ n ≤ 100 ∧ c ≤ 1000 ∧ k ≤ 4) ∧ ∀ (p : Addr) (M' : Mp), M p = none → LstAt M' p (pk v o n c k) → Grow M M' → Q (.ref p) M'
/-! the fields -/
theorem e_vat_vat : (("vat" : Str) == ("vat" : Str)) = true := by decide +kernel
theorem e_vat_other : (("vat" : Str) == ("other" : Str)) = false := by decide +kernel
theorem e_vat_sent : (("vat" : Str) == ("sent" : Str)) = false := by decide +kernel
theorem e_vat_kept : (("vat" : Str) == ("kept" : Str)) = false := by decide +kernel
theorem e_vat_known : (("vat" : Str) == ("known" : Str)) = false := by decide +kernel
theorem e_other_vat : (("other" : Str) == ("vat" : Str)) = false := by decide +kernel
theorem e_other_other : (("other" : Str) == ("other" : Str)) = true := by decide +kernel
theorem e_other_sent : (("other" : Str) == ("sent" : Str)) = false := by decide +kernel
theorem e_other_kept : (("other" : Str) == ("kept" : Str)) = false := by decide +kernel
theorem e_other_known : (("other" : Str) == ("known" : Str)) = false := by decide +kernel
theorem e_sent_vat : (("sent" : Str) == ("vat" : Str)) = false := by decide +kernel
theorem e_sent_other : (("sent" : Str) == ("other" : Str)) = false := by decide +kernel
theorem e_sent_sent : (("sent" : Str) == ("sent" : Str)) = true := by decide +kernel
theorem e_sent_kept : (("sent" : Str) == ("kept" : Str)) = false := by decide +kernel
theorem e_sent_known : (("sent" : Str) == ("known" : Str)) = false := by decide +kernel
theorem e_kept_vat : (("kept" : Str) == ("vat" : Str)) = false := by decide +kernel
theorem e_kept_other : (("kept" : Str) == ("other" : Str)) = false := by decide +kernel
theorem e_kept_sent : (("kept" : Str) == ("sent" : Str)) = false := by decide +kernel
theorem e_kept_kept : (("kept" : Str) == ("kept" : Str)) = true := by decide +kernel
theorem e_kept_known : (("kept" : Str) == ("known" : Str)) = false := by decide +kernel
theorem e_known_vat : (("known" : Str) == ("vat" : Str)) = false := by decide +kernel
theorem e_known_other : (("known" : Str) == ("other" : Str)) = false := by decide +kernel
theorem e_known_sent : (("known" : Str) == ("sent" : Str)) = false := by decide +kernel
theorem e_known_kept : (("known" : Str) == ("kept" : Str)) = false := by decide +kernel
theorem e_known_known : (("known" : Str) == ("known" : Str)) = true := by decide +kernel
theorem f_vat {v o s : Int} {a b : Addr} : (fs v o s a b).lookup ("vat" : Str) = some (D.int v) := by
  unfold fs
  simp only [List.lookup_cons, e_vat_vat, e_vat_other, e_vat_sent, e_vat_kept, e_vat_known]
theorem f_other {v o s : Int} {a b : Addr} : (fs v o s a b).lookup ("other" : Str) = some (D.int o) := by
  unfold fs
  simp only [List.lookup_cons, e_other_vat, e_other_other, e_other_sent, e_other_kept, e_other_known]
theorem f_sent {v o s : Int} {a b : Addr} : (fs v o s a b).lookup ("sent" : Str) = some (D.int s) := by
  unfold fs
  simp only [List.lookup_cons, e_sent_vat, e_sent_other, e_sent_sent, e_sent_kept, e_sent_known]
theorem f_kept {v o s : Int} {a b : Addr} : (fs v o s a b).lookup ("kept" : Str) = some (D.ref a) := by
  unfold fs
  simp only [List.lookup_cons, e_kept_vat, e_kept_other, e_kept_sent, e_kept_kept, e_kept_known]
theorem f_known {v o s : Int} {a b : Addr} : (fs v o s a b).lookup ("known" : Str) = some (D.ref b) := by
  unfold fs
  simp only [List.lookup_cons, e_known_vat, e_known_other, e_known_sent, e_known_kept, e_known_known]
/-- what is told stays but at p, a -/
def Grow2 (p a : Addr) (M M' : Mp) : Prop := ∀ c o, c ≠ p → c ≠ a → M c = some o → M' c = some o
def sp8 : L3.Spec := fun xs M Q _ => ∃ (p a b : Addr) (v o s c k : Nat) (kvs : List (D × D)), xs = [.ref p, cont c k] ∧ (v ≤ 100 ∧ o ≤ 100 ∧ s < 100 ∧ c ≤ 1000 ∧ k ≤ 4) ∧ M p = some (.ins 0 (fs v o s a b)) ∧ M a = some (.dct kvs) ∧ kvs.length ≤ 1000 ∧
  ∀ (x : Addr) (M' : Mp), M x = none → LstAt M' x (pk v o (s + 1) c k) → M' p = some (.ins 0 (fs v o (s + 1 : Nat) a b)) → M' a = some (.dct (dput kvs (.int (s + 1 : Nat)) (.ref x))) → Grow2 p a M M' → Q (.int (s + 1 : Nat)) M'
def sp10 : L3.Spec := fun xs M Q _ => ∃ (p a b : Addr) (v o s : Int) (n : Nat) (ns : List Nat), xs = [.ref p, .int n] ∧ M p = some (.ins 0 (fs v o s a b)) ∧ M b = some (.dct (known ns)) ∧ ns.length ≤ 1000 ∧
  ((n ∈ ns → Q (.bl false) M) ∧ (n ∉ ns → Q (.bl true) (mset M b (.dct (known (ns ++ [n]))))))
def sp11 : L3.Spec := fun xs M Q _ => ∃ (p : Addr) (v o : Int), xs = [.ref p, .int v, .int o] ∧ M p = some (.ins 0 []) ∧ ∀ (a b : Addr) (M' : Mp), M a = none → M b = none → a ≠ b → M' p = some (.ins 0 (fs v o 0 a b)) → M' a = some (.dct []) → M' b = some (.dct []) → (∀ c, c ≠ p → c ≠ a → c ≠ b → M' c = M c) → Q .non M'
def sp12 : L3.Spec := fun xs M Q _ => ∃ (ns : List Int) (k : Nat), xs = [.kl (ns.map .int), .int k] ∧ ∀ n, Q (.int n) M
def sp13 : L3.Spec := fun xs M Q _ => ∃ (ns : List Int), xs = [.kl (ns.map .int), .int 0, .int 40] ∧ ∀ (d : Addr) (ys : List Int) (M' : Mp), M d = none → M' d = some (.lst (ys.map .int)) → But d M M' → Q (.ref d) M'
def sp14 : L3.Spec := fun xs M Q _ => ∃ (ns : List Int), xs = [.kl (ns.map .int)] ∧ M = (fun _ => none) ∧ ∀ M', Q (.bl true) M'
def sp9 : L3.Spec := fun xs M Q _ => ∃ (p a b : Addr) (v o s n : Int) (rs : List (Int × D)), xs = [.ref p, .int n] ∧ M p = some (.ins 0 (fs v o s a b)) ∧ M a = some (.dct (kv rs)) ∧ (rs.map (·.1)).Nodup ∧ rs.length ≤ 1000 ∧
  ∀ (x : Addr) (M' : Mp), M x = none → M' x = some (.dct (kv (rs.filter fun r => decide (n < r.1)))) → M' p = some (.ins 0 (fs v o s x b)) → (∀ c, c ≠ p → c ≠ x → M' c = M c) → Q .non M'
def spK (i : Nat) : L3.Spec := match i with
  | 0 => sp0 | 1 => sp1 | 2 => sp2 | 3 => sp3 | 4 => sp4 | 5 => sp5 | 6 => sp6 | 7 => sp7 | 8 => sp8 | 9 => sp9 | 10 => sp10 | 11 => sp11 | 12 => sp12 | 13 => sp13 | 14 => sp14
  | _ => fun _ _ _ _ => False
def P0 : Pr := ⟨spK, md.fl, fun _ _ => none, fun _ => [], fun _ _ => false⟩
theorem len2 {α : Type} (a b : α) : [a, b].length ≤ PySem.sizeLine := by show 2 ≤ _; decide
theorem sm {i : Int} (h0 : 0 ≤ i) (h : i ≤ 10000) : small62 i := ⟨by omega, by omega⟩
theorem atD_get {ds : List D} {i : Nat} {d : D} (h : ds[i]? = some d) : atD ds (i : Int) = some d := by
  unfold atD
  rw [if_pos (by omega)]
  exact h
theorem ok_draw : Keeps P0 sp0 3 b__law_draw := by
  rintro ds M Q X ⟨b, d, m, rfl, hm, ⟨xs, at_, h1, h2, h3⟩, q⟩
  show wpSs P0 b__law_draw _ _ [some (.ref b), some (.int m), none] M
  unfold b__law_draw
  simp only [wpSs, wpS, wpE, wpEs, wpT, L3.w_add, L3.w_addS, L3.w_addT, L3.w_sub, L3.w_mul, L3.w_fdiv, L3.w_mod, L3.w_pow, L3.w_iadd, L3.w_isub, L3.w_neg, L3.w_lt, L3.w_le, L3.w_gt, L3.w_ge, L3.w_eq, L3.w_ne, L3.w_in, L3.w_nin, L3.w_tb, L3.w_ti, L3.w_tt, L3.w_ix0, L3.w_ix1, L3.w_ix2, L3.w_lenT, L3.w_lenK, L3.w_int, L3.w_max, L3.w_min, L3.w_rng1, L3.w_rng2, L3.w_one, L3.w_ixK, L3.w_itS, L3.w_lenS, L3.w_many, L3.w_eqS, List.getElem?_cons_zero, List.getElem?_cons_succ, List.set_cons_zero, List.set_cons_succ, Option.some.injEq, exists_eq_left', decide_eq_true_eq, Bool.false_eq_true, if_false, if_true, Bool.not_true, Bool.not_false]
  refine (w_ixL h1).mpr ⟨.int at_, rfl, ?_⟩
  simp only [wpSs, wpS, wpE, wpEs, wpT, L3.w_add, L3.w_addS, L3.w_addT, L3.w_sub, L3.w_mul, L3.w_fdiv, L3.w_mod, L3.w_pow, L3.w_iadd, L3.w_isub, L3.w_neg, L3.w_lt, L3.w_le, L3.w_gt, L3.w_ge, L3.w_eq, L3.w_ne, L3.w_in, L3.w_nin, L3.w_tb, L3.w_ti, L3.w_tt, L3.w_ix0, L3.w_ix1, L3.w_ix2, L3.w_lenT, L3.w_lenK, L3.w_int, L3.w_max, L3.w_min, L3.w_rng1, L3.w_rng2, L3.w_one, L3.w_ixK, L3.w_itS, L3.w_lenS, L3.w_many, L3.w_eqS, List.getElem?_cons_zero, List.getElem?_cons_succ, List.set_cons_zero, List.set_cons_succ, Option.some.injEq, exists_eq_left', decide_eq_true_eq, Bool.false_eq_true, if_false, if_true, Bool.not_true, Bool.not_false]
  refine (w_set h1).mpr ⟨⟨by decide, by show (1 : Int) < 2; decide⟩, ?_⟩
  have g1 : mset M b (.lst ([D.ref d, .int at_].set (Int.toNat 1) (.int ((at_ : Int) + 1)))) b = some (.lst [.ref d, .int ((at_ : Int) + 1)]) := mset_same
  have g2 : mset M b (.lst ([D.ref d, .int at_].set (Int.toNat 1) (.int ((at_ : Int) + 1)))) d = some (.lst (xs.map .int)) := (mset_ne h3.symm).trans h2
  have bx : Box (mset M b (.lst ([D.ref d, .int at_].set (Int.toNat 1) (.int ((at_ : Int) + 1))))) b d := ⟨xs, at_ + 1, g1, g2, h3⟩
  have bt : But b M (mset M b (.lst ([D.ref d, .int at_].set (Int.toNat 1) (.int ((at_ : Int) + 1))))) := fun c hc => mset_ne hc
  revert g1 g2 bx bt
  generalize mset M b (.lst ([D.ref d, .int at_].set (Int.toNat 1) (.int ((at_ : Int) + 1)))) = M1
  intro g1 g2 bx bt
  refine (w_ixL g1).mpr ⟨.ref d, rfl, ?_⟩
  refine (w_lenL g2).mpr ?_
  simp only [wpSs, wpS, wpE, wpEs, wpT, L3.w_add, L3.w_addS, L3.w_addT, L3.w_sub, L3.w_mul, L3.w_fdiv, L3.w_mod, L3.w_pow, L3.w_iadd, L3.w_isub, L3.w_neg, L3.w_lt, L3.w_le, L3.w_gt, L3.w_ge, L3.w_eq, L3.w_ne, L3.w_in, L3.w_nin, L3.w_tb, L3.w_ti, L3.w_tt, L3.w_ix0, L3.w_ix1, L3.w_ix2, L3.w_lenT, L3.w_lenK, L3.w_int, L3.w_max, L3.w_min, L3.w_rng1, L3.w_rng2, L3.w_one, L3.w_ixK, L3.w_itS, L3.w_lenS, L3.w_many, L3.w_eqS, List.getElem?_cons_zero, List.getElem?_cons_succ, List.set_cons_zero, List.set_cons_succ, Option.some.injEq, exists_eq_left', decide_eq_true_eq, Bool.false_eq_true, if_false, if_true, Bool.not_true, Bool.not_false]
  split
  · rename_i hlt
    have hk : at_ < xs.length := by simpa using hlt
    refine (w_ixL g1).mpr ⟨.ref d, rfl, ?_⟩
    refine (w_ixL g2).mpr ⟨.int xs[at_], atD_get (by simp [hk]), ?_⟩
    simp only [wpSs, wpS, wpE, wpEs, wpT, L3.w_add, L3.w_addS, L3.w_addT, L3.w_sub, L3.w_mul, L3.w_fdiv, L3.w_mod, L3.w_pow, L3.w_iadd, L3.w_isub, L3.w_neg, L3.w_lt, L3.w_le, L3.w_gt, L3.w_ge, L3.w_eq, L3.w_ne, L3.w_in, L3.w_nin, L3.w_tb, L3.w_ti, L3.w_tt, L3.w_ix0, L3.w_ix1, L3.w_ix2, L3.w_lenT, L3.w_lenK, L3.w_int, L3.w_max, L3.w_min, L3.w_rng1, L3.w_rng2, L3.w_one, L3.w_ixK, L3.w_itS, L3.w_lenS, L3.w_many, L3.w_eqS, List.getElem?_cons_zero, List.getElem?_cons_succ, List.set_cons_zero, List.set_cons_succ, Option.some.injEq, exists_eq_left', decide_eq_true_eq, Bool.false_eq_true, if_false, if_true, Bool.not_true, Bool.not_false]
    exact ⟨hm, q _ _ (Int.emod_nonneg _ (by omega)) (Int.emod_lt_of_pos _ hm) bx bt⟩
  · exact ⟨.inr ⟨by decide, by decide⟩, hm, q _ _ (Int.emod_nonneg _ (by omega)) (Int.emod_lt_of_pos _ hm) bx bt⟩
theorem ok_same : Keeps P0 sp1 2 b__law_same := by
  rintro ds M Q X ⟨d, e, rfl, ⟨p, h1, h2, h3, h4, h5⟩, q⟩
  show wpSs P0 b__law_same _ _ [some d, some e] M
  unfold b__law_same
  simp only [wpSs, wpS, wpE, wpEs, L3.w_repr, List.getElem?_cons_zero, List.getElem?_cons_succ, Option.some.injEq, exists_eq_left']
  refine ⟨p, h1, h3, h4, h5, p, h2, h3, h4, h5, ?_⟩
  exact wpEq_same (x := .str p.shown) (M := M) (k := fun r => Q (.bl r) M) (fun _ z => nomatch z) rfl q
theorem ok_cell : Keeps P0 sp12 2 b__law_cell := by
  rintro ds M Q X ⟨ns, k, rfl, q⟩
  show wpSs P0 b__law_cell _ _ [some (.kl (ns.map .int)), some (.int k)] M
  unfold b__law_cell
  simp only [wpSs, wpS, wpE, wpEs, wpT, L3.w_add, L3.w_addS, L3.w_addT, L3.w_sub, L3.w_mul, L3.w_fdiv, L3.w_mod, L3.w_pow, L3.w_iadd, L3.w_isub, L3.w_neg, L3.w_lt, L3.w_le, L3.w_gt, L3.w_ge, L3.w_eq, L3.w_ne, L3.w_in, L3.w_nin, L3.w_tb, L3.w_ti, L3.w_tt, L3.w_ix0, L3.w_ix1, L3.w_ix2, L3.w_lenT, L3.w_lenK, L3.w_int, L3.w_max, L3.w_min, L3.w_rng1, L3.w_rng2, L3.w_one, L3.w_ixK, L3.w_itS, L3.w_lenS, L3.w_many, L3.w_eqS, List.getElem?_cons_zero, List.getElem?_cons_succ, List.set_cons_zero, List.set_cons_succ, Option.some.injEq, exists_eq_left', decide_eq_true_eq, Bool.false_eq_true, if_false, if_true, Bool.not_true, Bool.not_false]
  split
  · rename_i h
    have hk : k < ns.length := by simpa using h
    refine ⟨.int ns[k], ?_, q _⟩
    simp [atD, hk]
  · exact q 0
theorem len_app {xs : List Int} {y : Int} : (xs.map D.int ++ [D.int y]) = (xs ++ [y]).map D.int := by simp
theorem dhas_known {ns : List Nat} {n : Int} : dhas (known ns) (.int n) = decide (∃ m ∈ ns, (m : Int) = n) := by
  unfold dhas known
  rw [List.any_map]
  rw [Bool.eq_iff_iff, List.any_eq_true, decide_eq_true_eq]
  constructor
  · rintro ⟨m, hm, h⟩
    have h' : (D.int (m : Int)).eqv (.int n) = true := h
    rw [eqv_int] at h'
    exact ⟨m, hm, of_decide_eq_true h'⟩
  · rintro ⟨m, hm, h⟩
    refine ⟨m, hm, ?_⟩
    show (D.int (m : Int)).eqv (.int n) = true
    rw [eqv_int]
    exact decide_eq_true h
theorem ok_completeIn : Keeps P0 sp2 2 b_complete_in := by
  rintro ds M Q X ⟨k, ns, rfl, hk, hb, q⟩
  show wpSs P0 b_complete_in _ _ [some (.ref k), none] M
  unfold b_complete_in
  simp only [wpSs, wpS, wpE, wpEs, wpT, L3.w_add, L3.w_addS, L3.w_addT, L3.w_sub, L3.w_mul, L3.w_fdiv, L3.w_mod, L3.w_pow, L3.w_iadd, L3.w_isub, L3.w_neg, L3.w_lt, L3.w_le, L3.w_gt, L3.w_ge, L3.w_eq, L3.w_ne, L3.w_in, L3.w_nin, L3.w_tb, L3.w_ti, L3.w_tt, L3.w_ix0, L3.w_ix1, L3.w_ix2, L3.w_lenT, L3.w_lenK, L3.w_int, L3.w_max, L3.w_min, L3.w_rng1, L3.w_rng2, L3.w_one, L3.w_ixK, L3.w_itS, L3.w_lenS, L3.w_many, L3.w_eqS, List.getElem?_cons_zero, List.getElem?_cons_succ, List.set_cons_zero, List.set_cons_succ, Option.some.injEq, exists_eq_left', decide_eq_true_eq, Bool.false_eq_true, if_false, if_true, Bool.not_true, Bool.not_false]
  refine whL_inv (fun m σ M' => M' = M ∧ ∃ c : Nat, σ = [some (.ref k), some (.int (c : Nat))] ∧ (∀ j, 1 ≤ j → j ≤ c → j ∈ ns) ∧ m = 11 - c ∧ c ≤ 10) 11 ⟨rfl, 0, rfl, fun j h1 h2 => by omega, rfl, by omega⟩ ?_
  rintro m σ M' nx ⟨rfl, c, rfl, hc, rfl, hc10⟩ hnx
  simp only [wpSs, wpS, wpE, wpEs, wpT, L3.w_add, L3.w_addS, L3.w_addT, L3.w_sub, L3.w_mul, L3.w_fdiv, L3.w_mod, L3.w_pow, L3.w_iadd, L3.w_isub, L3.w_neg, L3.w_lt, L3.w_le, L3.w_gt, L3.w_ge, L3.w_eq, L3.w_ne, L3.w_in, L3.w_nin, L3.w_tb, L3.w_ti, L3.w_tt, L3.w_ix0, L3.w_ix1, L3.w_ix2, L3.w_lenT, L3.w_lenK, L3.w_int, L3.w_max, L3.w_min, L3.w_rng1, L3.w_rng2, L3.w_one, L3.w_ixK, L3.w_itS, L3.w_lenS, L3.w_many, L3.w_eqS, List.getElem?_cons_zero, List.getElem?_cons_succ, List.set_cons_zero, List.set_cons_succ, Option.some.injEq, exists_eq_left', decide_eq_true_eq, Bool.false_eq_true, if_false, if_true, Bool.not_true, Bool.not_false]
  refine (w_inD hk).mpr ⟨rfl, ?_⟩
  rw [dhas_known]
  simp only [wpSs, wpS, wpE, wpEs, wpT, L3.w_add, L3.w_addS, L3.w_addT, L3.w_sub, L3.w_mul, L3.w_fdiv, L3.w_mod, L3.w_pow, L3.w_iadd, L3.w_isub, L3.w_neg, L3.w_lt, L3.w_le, L3.w_gt, L3.w_ge, L3.w_eq, L3.w_ne, L3.w_in, L3.w_nin, L3.w_tb, L3.w_ti, L3.w_tt, L3.w_ix0, L3.w_ix1, L3.w_ix2, L3.w_lenT, L3.w_lenK, L3.w_int, L3.w_max, L3.w_min, L3.w_rng1, L3.w_rng2, L3.w_one, L3.w_ixK, L3.w_itS, L3.w_lenS, L3.w_many, L3.w_eqS, List.getElem?_cons_zero, List.getElem?_cons_succ, List.set_cons_zero, List.set_cons_succ, Option.some.injEq, exists_eq_left', decide_eq_true_eq, Bool.false_eq_true, if_false, if_true, Bool.not_true, Bool.not_false]
  have key : (∃ m ∈ ns, (m : Int) = (c : Int) + 1) ↔ c + 1 ∈ ns := by
    constructor
    · rintro ⟨m, hm, e⟩
      have : m = c + 1 := by omega
      rw [← this]; exact hm
    · intro h
      exact ⟨c + 1, h, by omega⟩
  simp only [key]
  split
  · rename_i h
    unfold b_complete_in_0
    simp only [wpSs, wpS, wpE, wpEs, wpT, L3.w_add, L3.w_addS, L3.w_addT, L3.w_sub, L3.w_mul, L3.w_fdiv, L3.w_mod, L3.w_pow, L3.w_iadd, L3.w_isub, L3.w_neg, L3.w_lt, L3.w_le, L3.w_gt, L3.w_ge, L3.w_eq, L3.w_ne, L3.w_in, L3.w_nin, L3.w_tb, L3.w_ti, L3.w_tt, L3.w_ix0, L3.w_ix1, L3.w_ix2, L3.w_lenT, L3.w_lenK, L3.w_int, L3.w_max, L3.w_min, L3.w_rng1, L3.w_rng2, L3.w_one, L3.w_ixK, L3.w_itS, L3.w_lenS, L3.w_many, L3.w_eqS, List.getElem?_cons_zero, List.getElem?_cons_succ, List.set_cons_zero, List.set_cons_succ, Option.some.injEq, exists_eq_left', decide_eq_true_eq, Bool.false_eq_true, if_false, if_true, Bool.not_true, Bool.not_false]
    have := hb _ h
    refine hnx (11 - (c + 1)) _ _ (by omega) ⟨rfl, c + 1, rfl, fun j h1 h2 => ?_, rfl, this⟩
    by_cases e : j = c + 1
    · rw [e]; exact h
    · exact hc j h1 (by omega)
  · rename_i h
    exact q c ⟨hc, h⟩
theorem ok_complete : Keeps P0 sp3 1 b_Line_complete := by
  rintro ds M Q X ⟨p, a, b, v, o, s, ns, rfl, hp, hb, hn, q⟩
  show wpSs P0 b_Line_complete _ _ [some (.ref p)] M
  unfold b_Line_complete
  simp only [wpSs, wpS, wpE, wpEs, wpT, L3.w_add, L3.w_addS, L3.w_addT, L3.w_sub, L3.w_mul, L3.w_fdiv, L3.w_mod, L3.w_pow, L3.w_iadd, L3.w_isub, L3.w_neg, L3.w_lt, L3.w_le, L3.w_gt, L3.w_ge, L3.w_eq, L3.w_ne, L3.w_in, L3.w_nin, L3.w_tb, L3.w_ti, L3.w_tt, L3.w_ix0, L3.w_ix1, L3.w_ix2, L3.w_lenT, L3.w_lenK, L3.w_int, L3.w_max, L3.w_min, L3.w_rng1, L3.w_rng2, L3.w_one, L3.w_ixK, L3.w_itS, L3.w_lenS, L3.w_many, L3.w_eqS, List.getElem?_cons_zero, List.getElem?_cons_succ, List.set_cons_zero, List.set_cons_succ, Option.some.injEq, exists_eq_left', decide_eq_true_eq, Bool.false_eq_true, if_false, if_true, Bool.not_true, Bool.not_false]
  exact (w_fld hp).mpr ⟨by decide +kernel, .ref b, f_known, b, ns, rfl, hb, hn, q⟩
theorem ok_wcount : Keeps P0 sp4 2 b_write_count := by
  rintro ds M Q X ⟨n, rfl, hn, q⟩
  show wpSs P0 b_write_count _ _ [some (.int n), none] M
  unfold b_write_count
  simp only [wpSs, wpS, wpE, wpEs, wpT, L3.w_add, L3.w_addS, L3.w_addT, L3.w_sub, L3.w_mul, L3.w_fdiv, L3.w_mod, L3.w_pow, L3.w_iadd, L3.w_isub, L3.w_neg, L3.w_lt, L3.w_le, L3.w_gt, L3.w_ge, L3.w_eq, L3.w_ne, L3.w_in, L3.w_nin, L3.w_tb, L3.w_ti, L3.w_tt, L3.w_ix0, L3.w_ix1, L3.w_ix2, L3.w_lenT, L3.w_lenK, L3.w_int, L3.w_max, L3.w_min, L3.w_rng1, L3.w_rng2, L3.w_one, L3.w_ixK, L3.w_itS, L3.w_lenS, L3.w_many, L3.w_eqS, List.getElem?_cons_zero, List.getElem?_cons_succ, List.set_cons_zero, List.set_cons_succ, Option.some.injEq, exists_eq_left', decide_eq_true_eq, Bool.false_eq_true, if_false, if_true, Bool.not_true, Bool.not_false]
  refine ⟨by decide, fun p hp => ?_⟩
  simp only [wpSs, wpS, wpE, wpEs, wpT, L3.w_add, L3.w_addS, L3.w_addT, L3.w_sub, L3.w_mul, L3.w_fdiv, L3.w_mod, L3.w_pow, L3.w_iadd, L3.w_isub, L3.w_neg, L3.w_lt, L3.w_le, L3.w_gt, L3.w_ge, L3.w_eq, L3.w_ne, L3.w_in, L3.w_nin, L3.w_tb, L3.w_ti, L3.w_tt, L3.w_ix0, L3.w_ix1, L3.w_ix2, L3.w_lenT, L3.w_lenK, L3.w_int, L3.w_max, L3.w_min, L3.w_rng1, L3.w_rng2, L3.w_one, L3.w_ixK, L3.w_itS, L3.w_lenS, L3.w_many, L3.w_eqS, List.getElem?_cons_zero, List.getElem?_cons_succ, List.set_cons_zero, List.set_cons_succ, Option.some.injEq, exists_eq_left', decide_eq_true_eq, Bool.false_eq_true, if_false, if_true, Bool.not_true, Bool.not_false]
  refine whL_inv (fun m σ M' => ∃ (r : Nat) (ys : List Int), m = r ∧ σ = [some (.int (r : Nat)), some (.ref p)] ∧ LstAt M' p ys ∧ ys ++ wc r = wc n ∧ Grow M M' ∧ ys.length + r ≤ 200000) n ⟨n, [], rfl, rfl, mset_same, rfl, Grow.new hp, by simp; omega⟩ ?_
  rintro m σ M' nx ⟨r, ys, rfl, rfl, hM, he, g, hl⟩ hnx
  simp only [wpSs, wpS, wpE, wpEs, wpT, L3.w_add, L3.w_addS, L3.w_addT, L3.w_sub, L3.w_mul, L3.w_fdiv, L3.w_mod, L3.w_pow, L3.w_iadd, L3.w_isub, L3.w_neg, L3.w_lt, L3.w_le, L3.w_gt, L3.w_ge, L3.w_eq, L3.w_ne, L3.w_in, L3.w_nin, L3.w_tb, L3.w_ti, L3.w_tt, L3.w_ix0, L3.w_ix1, L3.w_ix2, L3.w_lenT, L3.w_lenK, L3.w_int, L3.w_max, L3.w_min, L3.w_rng1, L3.w_rng2, L3.w_one, L3.w_ixK, L3.w_itS, L3.w_lenS, L3.w_many, L3.w_eqS, List.getElem?_cons_zero, List.getElem?_cons_succ, List.set_cons_zero, List.set_cons_succ, Option.some.injEq, exists_eq_left', decide_eq_true_eq, Bool.false_eq_true, if_false, if_true, Bool.not_true, Bool.not_false]
  split
  · rename_i h
    have h : 128 ≤ m := by omega
    unfold b_write_count_0
    simp only [wpSs, wpS, wpE, wpEs, wpT, L3.w_add, L3.w_addS, L3.w_addT, L3.w_sub, L3.w_mul, L3.w_fdiv, L3.w_mod, L3.w_pow, L3.w_iadd, L3.w_isub, L3.w_neg, L3.w_lt, L3.w_le, L3.w_gt, L3.w_ge, L3.w_eq, L3.w_ne, L3.w_in, L3.w_nin, L3.w_tb, L3.w_ti, L3.w_tt, L3.w_ix0, L3.w_ix1, L3.w_ix2, L3.w_lenT, L3.w_lenK, L3.w_int, L3.w_max, L3.w_min, L3.w_rng1, L3.w_rng2, L3.w_one, L3.w_ixK, L3.w_itS, L3.w_lenS, L3.w_many, L3.w_eqS, List.getElem?_cons_zero, List.getElem?_cons_succ, List.set_cons_zero, List.set_cons_succ, Option.some.injEq, exists_eq_left', decide_eq_true_eq, Bool.false_eq_true, if_false, if_true, Bool.not_true, Bool.not_false]
    refine ⟨by rw [w_rcvL hM]; rfl, by decide, trivial, (w_app hM).mpr ⟨by rw [List.length_map]; show _ < 2 ^ 24; omega, ⟨by decide, by decide⟩, hnx (m / 128) _ _ (by omega) ⟨m / 128, ys ++ [128 + (m : Int) % 128], rfl, ?_, ?_, ?_, g.wr hp, ?_⟩⟩⟩
    · rw [show ((m : Int) / 128) = ((m / 128 : Nat) : Int) by omega]
    · show mset M' p _ p = _
      rw [mset_same, len_app]
    · rw [← he, List.append_assoc]
      congr 1
      rw [wc.eq_1 m, dif_pos h]
      rfl
    · rw [List.length_append]
      show ys.length + 1 + _ ≤ _
      omega
  · rename_i h
    refine ⟨by rw [w_rcvL hM]; rfl, trivial, (w_app hM).mpr ⟨by rw [List.length_map]; show _ < 2 ^ 24; omega, q p _ hp ?_ (g.wr hp)⟩⟩
    show mset M' p _ p = _
    rw [mset_same, len_app, ← he, wc.eq_1 m, dif_neg (by omega)]
end K51
end
section
set_option Elab.async false
set_option autoImplicit false
set_option linter.all false
set_option maxRecDepth 100000
/-! k51: the packet, the line -/
namespace K51
open L3
open PySem (Addr Str PyData)

theorem wc_small {n : Nat} (h : n < 128) : wc n = [(n : Int)] := by
  rw [wc.eq_1 n, dif_neg (by omega)]
theorem wc_two {n : Nat} (h : n < 16384) : (wc n).length ≤ 2 := by
  by_cases h1 : n < 128
  · rw [wc_small h1]; exact Nat.le_succ 1
  · rw [wc.eq_1 n, dif_pos (by omega), wc_small (n := n / 128) (by omega)]
    exact Nat.le_refl _
theorem effs_at {k i : Nat} {c : Nat} (h : (effs k).cps.toList[i]? = some c) : c = 102 := by
  unfold effs at h
  simp only [List.toList_toArray] at h
  rw [List.getElem?_replicate] at h
  split at h
  · exact (Option.some.inj h).symm
  · cases h
theorem sz {n : Nat} (h : n ≤ 100000) : n ≤ PySem.sizeLine := Nat.le_trans h (by decide)
theorem occ_f : ∃ r, PySem.Builtin.Str.occurrences (" !\"#$&'()*+,-./0123456789:;<=>?@ABCDEFGHIJKLMNOPQRSTUVWXYZ[\\]^_`abcdefghijklmnopqrstuvwxyz{|}~" : Str) ⟨#[102]⟩ 0 (" !\"#$&'()*+,-./0123456789:;<=>?@ABCDEFGHIJKLMNOPQRSTUVWXYZ[\\]^_`abcdefghijklmnopqrstuvwxyz{|}~" : Str).length 1 = 69 :: r := ⟨[], by decide +kernel⟩
theorem ok_wtext : Keeps P0 sp5 3 b_write_text := by
  rintro ds M Q X ⟨k, rfl, hk, q⟩
  show wpSs P0 b_write_text _ _ [some (.str (effs k)), none, none] M
  have hlen : (effs k).length = k := by show (effs k).cps.size = k; unfold effs; simp
  unfold b_write_text
  simp only [wpSs, wpS, wpE, wpEs, wpT, L3.w_add, L3.w_addS, L3.w_addT, L3.w_sub, L3.w_mul, L3.w_fdiv, L3.w_mod, L3.w_pow, L3.w_iadd, L3.w_isub, L3.w_neg, L3.w_lt, L3.w_le, L3.w_gt, L3.w_ge, L3.w_eq, L3.w_ne, L3.w_in, L3.w_nin, L3.w_tb, L3.w_ti, L3.w_tt, L3.w_ix0, L3.w_ix1, L3.w_ix2, L3.w_lenT, L3.w_lenK, L3.w_int, L3.w_max, L3.w_min, L3.w_rng1, L3.w_rng2, L3.w_one, L3.w_ixK, L3.w_itS, L3.w_lenS, L3.w_many, L3.w_eqS, List.getElem?_cons_zero, List.getElem?_cons_succ, List.set_cons_zero, List.set_cons_succ, Option.some.injEq, exists_eq_left', decide_eq_true_eq, Bool.false_eq_true, if_false, if_true, Bool.not_true, Bool.not_false]
  rw [hlen]
  refine ⟨sz (by omega), k, rfl, by omega, fun p M1 hp hM1 g1 => ?_⟩
  simp only [wpSs, wpS, wpE, wpEs, wpT, L3.w_add, L3.w_addS, L3.w_addT, L3.w_sub, L3.w_mul, L3.w_fdiv, L3.w_mod, L3.w_pow, L3.w_iadd, L3.w_isub, L3.w_neg, L3.w_lt, L3.w_le, L3.w_gt, L3.w_ge, L3.w_eq, L3.w_ne, L3.w_in, L3.w_nin, L3.w_tb, L3.w_ti, L3.w_tt, L3.w_ix0, L3.w_ix1, L3.w_ix2, L3.w_lenT, L3.w_lenK, L3.w_int, L3.w_max, L3.w_min, L3.w_rng1, L3.w_rng2, L3.w_one, L3.w_ixK, L3.w_itS, L3.w_lenS, L3.w_many, L3.w_eqS, List.getElem?_cons_zero, List.getElem?_cons_succ, List.set_cons_zero, List.set_cons_succ, Option.some.injEq, exists_eq_left', decide_eq_true_eq, Bool.false_eq_true, if_false, if_true, Bool.not_true, Bool.not_false]
  refine ⟨sz (by omega), forL_inv (fun i σ M' => ∃ t : Option D, σ = [some (.str (effs k)), some (.ref p), t] ∧ LstAt M' p (wc k ++ List.replicate i 69) ∧ Grow M M' ∧ i ≤ k) ⟨none, rfl, by simpa using hM1, g1, Nat.zero_le _⟩ ?_ ?_⟩
  · rintro i x σ M' nx hx ⟨t, rfl, hM, g, hi⟩ hnx
    rw [List.getElem?_map] at hx
    obtain ⟨c, hc, rfl⟩ : ∃ c, (effs k).cps.toList[i]? = some c ∧ x = .str ⟨#[c]⟩ := by
      cases e : (effs k).cps.toList[i]? with
      | none => rw [e] at hx; cases hx
      | some c => rw [e] at hx; cases hx; exact ⟨c, rfl, rfl⟩
    have hik : i < k := by
      have := (List.getElem?_eq_some_iff.mp hc).1
      simpa [effs] using this
    have hc := effs_at hc
    subst hc
    refine ⟨trivial, ?_⟩
    unfold b_write_text_0
    simp only [wpSs, wpS, wpE, wpEs, wpT, L3.w_add, L3.w_addS, L3.w_addT, L3.w_sub, L3.w_mul, L3.w_fdiv, L3.w_mod, L3.w_pow, L3.w_iadd, L3.w_isub, L3.w_neg, L3.w_lt, L3.w_le, L3.w_gt, L3.w_ge, L3.w_eq, L3.w_ne, L3.w_in, L3.w_nin, L3.w_tb, L3.w_ti, L3.w_tt, L3.w_ix0, L3.w_ix1, L3.w_ix2, L3.w_lenT, L3.w_lenK, L3.w_int, L3.w_max, L3.w_min, L3.w_rng1, L3.w_rng2, L3.w_one, L3.w_ixK, L3.w_itS, L3.w_lenS, L3.w_many, L3.w_eqS, List.getElem?_cons_zero, List.getElem?_cons_succ, List.set_cons_zero, List.set_cons_succ, Option.some.injEq, exists_eq_left', decide_eq_true_eq, Bool.false_eq_true, if_false, if_true, Bool.not_true, Bool.not_false]
    obtain ⟨r, ho⟩ := occ_f
    refine ⟨by rw [w_rcvL hM]; rfl, rfl, trivial, 69, r, ho, 69, rfl, by omega, fun p2 M2 hp2 hM2 g2 => ?_⟩
    have hM' : LstAt M2 p (wc k ++ List.replicate i 69) := g2 p _ hM
    rw [wc_small (by omega)] at hM2
    refine ⟨by rw [w_rcvL hM, w_rcvL hM'], (w_ext hM' hM2).mpr ⟨sz ?_, hnx _ _ ⟨_, rfl, ?_, (g.trans g2).wr hp, by omega⟩⟩⟩
    · have := wc_two (n := k) (by omega)
      simp
      omega
    · show mset M2 p _ p = _
      rw [mset_same, ← List.map_append, List.append_assoc, List.replicate_succ']
      rfl
  · rintro σ M' ⟨t, rfl, hM, g, hi⟩
    refine ⟨trivial, ?_⟩
    simp only [wpSs, wpS, wpE, wpEs, wpT, L3.w_add, L3.w_addS, L3.w_addT, L3.w_sub, L3.w_mul, L3.w_fdiv, L3.w_mod, L3.w_pow, L3.w_iadd, L3.w_isub, L3.w_neg, L3.w_lt, L3.w_le, L3.w_gt, L3.w_ge, L3.w_eq, L3.w_ne, L3.w_in, L3.w_nin, L3.w_tb, L3.w_ti, L3.w_tt, L3.w_ix0, L3.w_ix1, L3.w_ix2, L3.w_lenT, L3.w_lenK, L3.w_int, L3.w_max, L3.w_min, L3.w_rng1, L3.w_rng2, L3.w_one, L3.w_ixK, L3.w_itS, L3.w_lenS, L3.w_many, L3.w_eqS, List.getElem?_cons_zero, List.getElem?_cons_succ, List.set_cons_zero, List.set_cons_succ, Option.some.injEq, exists_eq_left', decide_eq_true_eq, Bool.false_eq_true, if_false, if_true, Bool.not_true, Bool.not_false]
    rw [List.length_map, show (effs k).cps.toList.length = k from by simp [effs]] at hM
    exact q p M' hp hM g
theorem n_msg : (("break" : Str) = "message") = False := eq_false (by decide +kernel)
theorem n_ful : (("fulfill" : Str) = "break") = False := eq_false (by decide +kernel)
theorem n_res : (("resolved" : Str) = "break") = False := eq_false (by decide +kernel)
theorem n_rb : (("resolved_broken" : Str) = "break") = False := eq_false (by decide +kernel)
theorem w_in2 {x a b : Str} {M : Mp} {k : Bool → Prop} : wpIn (.str x) (.tup [.str a, .str b]) M k ↔ k (decide (a = x) || decide (b = x)) := by
  show (_ ∧ k ((D.str a).eqv (.str x) || ((D.str b).eqv (.str x) || false))) ↔ _
  rw [eqv_str, eqv_str, Bool.or_false]
  refine ⟨fun h => h.2, fun h => ⟨⟨rfl, fun d hd => ?_⟩, h⟩⟩
  rcases List.mem_cons.mp hd with rfl | hd
  · rfl
  · rcases List.mem_cons.mp hd with rfl | hd
    · rfl
    · cases hd
theorem ok_wcontent : Keeps P0 sp6 9 b_write_content := by
  rintro ds M Q X ⟨c, k, rfl, hc, hk, q⟩
  show wpSs P0 b_write_content _ _ [some (cont c k), none, none, none, none, none, none, none, none] M
  unfold b_write_content cont
  simp only [wpSs, wpS, wpE, wpEs, wpT, L3.w_add, L3.w_addS, L3.w_addT, L3.w_sub, L3.w_mul, L3.w_fdiv, L3.w_mod, L3.w_pow, L3.w_iadd, L3.w_isub, L3.w_neg, L3.w_lt, L3.w_le, L3.w_gt, L3.w_ge, L3.w_eq, L3.w_ne, L3.w_in, L3.w_nin, L3.w_tb, L3.w_ti, L3.w_tt, L3.w_ix0, L3.w_ix1, L3.w_ix2, L3.w_lenT, L3.w_lenK, L3.w_int, L3.w_max, L3.w_min, L3.w_rng1, L3.w_rng2, L3.w_one, L3.w_ixK, L3.w_itS, L3.w_lenS, L3.w_many, L3.w_eqS, List.getElem?_cons_zero, List.getElem?_cons_succ, List.set_cons_zero, List.set_cons_succ, Option.some.injEq, exists_eq_left', decide_eq_true_eq, Bool.false_eq_true, if_false, if_true, Bool.not_true, Bool.not_false, n_msg, n_ful, n_res, n_rb, w_in2, decide_false, Bool.or_self, decide_true, Bool.true_or]
  refine ⟨len2 _ _, len2 _ _, c, rfl, by omega, fun p M1 hp hM1 g1 => ?_⟩
  simp only [wpSs, wpS, wpE, wpEs, wpT, L3.w_add, L3.w_addS, L3.w_addT, L3.w_sub, L3.w_mul, L3.w_fdiv, L3.w_mod, L3.w_pow, L3.w_iadd, L3.w_isub, L3.w_neg, L3.w_lt, L3.w_le, L3.w_gt, L3.w_ge, L3.w_eq, L3.w_ne, L3.w_in, L3.w_nin, L3.w_tb, L3.w_ti, L3.w_tt, L3.w_ix0, L3.w_ix1, L3.w_ix2, L3.w_lenT, L3.w_lenK, L3.w_int, L3.w_max, L3.w_min, L3.w_rng1, L3.w_rng2, L3.w_one, L3.w_ixK, L3.w_itS, L3.w_lenS, L3.w_many, L3.w_eqS, List.getElem?_cons_zero, List.getElem?_cons_succ, List.set_cons_zero, List.set_cons_succ, Option.some.injEq, exists_eq_left', decide_eq_true_eq, Bool.false_eq_true, if_false, if_true, Bool.not_true, Bool.not_false]
  refine ⟨k, rfl, hk, fun p2 M2 hp2 hM2 g2 => ?_⟩
  have h1 : LstAt M2 p (wc c) := g2 p _ hM1
  refine (w_addL h1 hM2).mpr ⟨sz ?_, fun p3 hp3 => ?_⟩
  · have := wc_two (n := k) (by omega)
    have := wc_two (n := c) (by omega)
    simp
    omega
  · have g3 : Grow M (mset M2 p3 (.lst ((wc c).map D.int ++ (wc k ++ List.replicate k 69).map D.int))) := (g1.trans g2).trans (Grow.new hp3)
    refine q p3 _ ((g1.trans g2).none hp3) ?_ g3
    show mset M2 p3 _ p3 = _
    rw [mset_same, ← List.map_append]
/-- a list is added, made -/
theorem add_to {M : Mp} {a b : Addr} {xs ys : List Int} {Q : Post} (h1 : LstAt M a xs) (h2 : LstAt M b ys) (hl : xs.length + ys.length ≤ 1000) (q : ∀ (p : Addr) (M' : Mp), M p = none → LstAt M' p (xs ++ ys) → Grow M M' → Q (.ref p) M') : wpBin .add (.ref a) (.ref b) M Q := by
  refine (w_addL h1 h2).mpr ⟨sz (by simp; omega), fun p hp => q p _ hp ?_ (Grow.new hp)⟩
  show mset M p _ p = _
  rw [mset_same, ← List.map_append]
theorem ok_wpacket : Keeps P0 sp7 6 b_write_packet := by
  rintro ds M Q X ⟨v, o, n, c, k, rfl, ⟨hv, ho, hn, hc, hk⟩, q⟩
  show wpSs P0 b_write_packet _ _ [some (.tup [.int v, .int o, .int n, cont c k]), none, none, none, none, none] M
  unfold b_write_packet
  simp only [wpSs, wpS, wpE, wpEs, wpT, L3.w_add, L3.w_addS, L3.w_addT, L3.w_sub, L3.w_mul, L3.w_fdiv, L3.w_mod, L3.w_pow, L3.w_iadd, L3.w_isub, L3.w_neg, L3.w_lt, L3.w_le, L3.w_gt, L3.w_ge, L3.w_eq, L3.w_ne, L3.w_in, L3.w_nin, L3.w_tb, L3.w_ti, L3.w_tt, L3.w_ix0, L3.w_ix1, L3.w_ix2, L3.w_lenT, L3.w_lenK, L3.w_int, L3.w_max, L3.w_min, L3.w_rng1, L3.w_rng2, L3.w_one, L3.w_ixK, L3.w_itS, L3.w_lenS, L3.w_many, L3.w_eqS, List.getElem?_cons_zero, List.getElem?_cons_succ, List.set_cons_zero, List.set_cons_succ, Option.some.injEq, exists_eq_left', decide_eq_true_eq, Bool.false_eq_true, if_false, if_true, Bool.not_true, Bool.not_false]
  refine ⟨_, rfl, ?_⟩
  simp only [wpSs, wpS, wpE, wpEs, wpT, L3.w_add, L3.w_addS, L3.w_addT, L3.w_sub, L3.w_mul, L3.w_fdiv, L3.w_mod, L3.w_pow, L3.w_iadd, L3.w_isub, L3.w_neg, L3.w_lt, L3.w_le, L3.w_gt, L3.w_ge, L3.w_eq, L3.w_ne, L3.w_in, L3.w_nin, L3.w_tb, L3.w_ti, L3.w_tt, L3.w_ix0, L3.w_ix1, L3.w_ix2, L3.w_lenT, L3.w_lenK, L3.w_int, L3.w_max, L3.w_min, L3.w_rng1, L3.w_rng2, L3.w_one, L3.w_ixK, L3.w_itS, L3.w_lenS, L3.w_many, L3.w_eqS, List.getElem?_cons_zero, List.getElem?_cons_succ, List.set_cons_zero, List.set_cons_succ, Option.some.injEq, exists_eq_left', decide_eq_true_eq, Bool.false_eq_true, if_false, if_true, Bool.not_true, Bool.not_false]
  have lv := wc_two (n := v) (by omega)
  have lo := wc_two (n := o) (by omega)
  have ln := wc_two (n := n) (by omega)
  have lc := wc_two (n := c) (by omega)
  have lk := wc_two (n := k) (by omega)
  refine ⟨sz (by simp), fun p0 hp0 => ?_⟩
  have a0 : LstAt (mset M p0 (.lst [D.int 1])) p0 [1] := mset_same
  refine ⟨v, rfl, by omega, fun p1 M1 hp1 a1 g1 => ?_⟩
  refine add_to (g1 p0 _ a0) a1 (by simp; omega) fun p2 M2 hp2 a2 g2 => ?_
  refine ⟨o, rfl, by omega, fun p3 M3 hp3 a3 g3 => ?_⟩
  refine add_to (g3 p2 _ a2) a3 (by simp; omega) fun p4 M4 hp4 a4 g4 => ?_
  refine ⟨n, rfl, by omega, fun p5 M5 hp5 a5 g5 => ?_⟩
  refine add_to (g5 p4 _ a4) a5 (by simp; omega) fun p6 M6 hp6 a6 g6 => ?_
  unfold cont
  simp only [wpSs, wpS, wpE, wpEs, wpT, L3.w_add, L3.w_addS, L3.w_addT, L3.w_sub, L3.w_mul, L3.w_fdiv, L3.w_mod, L3.w_pow, L3.w_iadd, L3.w_isub, L3.w_neg, L3.w_lt, L3.w_le, L3.w_gt, L3.w_ge, L3.w_eq, L3.w_ne, L3.w_in, L3.w_nin, L3.w_tb, L3.w_ti, L3.w_tt, L3.w_ix0, L3.w_ix1, L3.w_ix2, L3.w_lenT, L3.w_lenK, L3.w_int, L3.w_max, L3.w_min, L3.w_rng1, L3.w_rng2, L3.w_one, L3.w_ixK, L3.w_itS, L3.w_lenS, L3.w_many, L3.w_eqS, List.getElem?_cons_zero, List.getElem?_cons_succ, List.set_cons_zero, List.set_cons_succ, Option.some.injEq, exists_eq_left', decide_eq_true_eq, Bool.false_eq_true, if_false, if_true, Bool.not_true, Bool.not_false]
  refine ⟨["message", "fulfill", "break", "subscribe", "resolved", "resolved_broken", "release", "release_answer", "transfer"], "break", 2, rfl, rfl, rfl, fun m hm => ?_, sz (by simp), fun p7 hp7 => ?_⟩
  · match m, hm with
    | 0, _ => exact fun z => absurd (Option.some.inj z) (by decide +kernel)
    | 1, _ => exact fun z => absurd (Option.some.inj z) (by decide +kernel)
  have a7 : LstAt (mset M6 p7 (.lst [D.int (2 : Nat)])) p7 [2] := mset_same
  have g7 : Grow M6 (mset M6 p7 (.lst [D.int (2 : Nat)])) := Grow.new hp7
  refine add_to (g7 p6 _ a6) a7 (by simp; omega) fun p8 M8 hp8 a8 g8 => ?_
  refine ⟨c, k, rfl, hc, hk, fun p9 M9 hp9 a9 g9 => ?_⟩
  refine add_to (g9 p8 _ a8) a9 (by simp; omega) fun p10 M10 hp10 a10 g10 => ?_
  have gA : Grow M M9 := ((((((((Grow.new hp0).trans g1).trans g2).trans g3).trans g4).trans g5).trans g6).trans g7).trans (g8.trans g9)
  exact q p10 M10 (gA.none hp10) (by unfold pk; simpa [List.append_assoc] using a10) (gA.trans g10)
theorem putF_sent {v o s t : Int} {a b : Addr} : putFd "sent" (.int t) (fs v o s a b) = fs v o t a b := by
  unfold fs putFd putFd putFd
  rw [if_neg (by decide +kernel), if_neg (by decide +kernel), if_pos rfl]
theorem putF_kept {v o s : Int} {a b c : Addr} : putFd "kept" (.ref c) (fs v o s a b) = fs v o s c b := by
  unfold fs putFd putFd putFd putFd
  rw [if_neg (by decide +kernel), if_neg (by decide +kernel), if_neg (by decide +kernel), if_pos rfl]
theorem fl_sent : P0.fl 0 "sent" = true := by decide +kernel
theorem fl_kept : P0.fl 0 "kept" = true := by decide +kernel
theorem fl_known : P0.fl 0 "known" = true := by decide +kernel
theorem fl_vat : P0.fl 0 "vat" = true := by decide +kernel
theorem fl_other : P0.fl 0 "other" = true := by decide +kernel
theorem ok_put : Keeps P0 sp8 2 b_Line_put := by
  rintro ds M Q X ⟨p, a, b, v, o, s, c, k, kvs, rfl, ⟨hv, ho, hs, hc, hk⟩, hp, ha, hl, q⟩
  show wpSs P0 b_Line_put _ _ [some (.ref p), some (cont c k)] M
  have npa : a ≠ p := by rintro rfl; rw [hp] at ha; cases ha
  unfold b_Line_put
  simp only [wpSs, wpS, wpE, wpEs, wpT, L3.w_add, L3.w_addS, L3.w_addT, L3.w_sub, L3.w_mul, L3.w_fdiv, L3.w_mod, L3.w_pow, L3.w_iadd, L3.w_isub, L3.w_neg, L3.w_lt, L3.w_le, L3.w_gt, L3.w_ge, L3.w_eq, L3.w_ne, L3.w_in, L3.w_nin, L3.w_tb, L3.w_ti, L3.w_tt, L3.w_ix0, L3.w_ix1, L3.w_ix2, L3.w_lenT, L3.w_lenK, L3.w_int, L3.w_max, L3.w_min, L3.w_rng1, L3.w_rng2, L3.w_one, L3.w_ixK, L3.w_itS, L3.w_lenS, L3.w_many, L3.w_eqS, List.getElem?_cons_zero, List.getElem?_cons_succ, List.set_cons_zero, List.set_cons_succ, Option.some.injEq, exists_eq_left', decide_eq_true_eq, Bool.false_eq_true, if_false, if_true, Bool.not_true, Bool.not_false]
  refine (w_fld hp).mpr ⟨fl_sent, _, f_sent, ?_⟩
  simp only [wpSs, wpS, wpE, wpEs, wpT, L3.w_add, L3.w_addS, L3.w_addT, L3.w_sub, L3.w_mul, L3.w_fdiv, L3.w_mod, L3.w_pow, L3.w_iadd, L3.w_isub, L3.w_neg, L3.w_lt, L3.w_le, L3.w_gt, L3.w_ge, L3.w_eq, L3.w_ne, L3.w_in, L3.w_nin, L3.w_tb, L3.w_ti, L3.w_tt, L3.w_ix0, L3.w_ix1, L3.w_ix2, L3.w_lenT, L3.w_lenK, L3.w_int, L3.w_max, L3.w_min, L3.w_rng1, L3.w_rng2, L3.w_one, L3.w_ixK, L3.w_itS, L3.w_lenS, L3.w_many, L3.w_eqS, List.getElem?_cons_zero, List.getElem?_cons_succ, List.set_cons_zero, List.set_cons_succ, Option.some.injEq, exists_eq_left', decide_eq_true_eq, Bool.false_eq_true, if_false, if_true, Bool.not_true, Bool.not_false]
  refine (w_setFld hp).mpr ⟨⟨fl_sent, by show 5 < 900; decide⟩, ?_⟩
  rw [putF_sent]
  have h1 : mset M p (.ins 0 (fs v o ((s : Int) + 1) a b)) p = some (.ins 0 (fs v o ((s + 1 : Nat) : Int) a b)) := mset_same
  have h2 : mset M p (.ins 0 (fs v o ((s : Int) + 1) a b)) a = some (.dct kvs) := (mset_ne npa).trans ha
  have h3 : ∀ c, c ≠ p → mset M p (.ins 0 (fs v o ((s : Int) + 1) a b)) c = M c := fun c hc => mset_ne hc
  revert h1 h2 h3
  generalize mset M p (.ins 0 (fs v o ((s : Int) + 1) a b)) = M1
  intro h1 h2 h3
  refine (w_fld h1).mpr ⟨fl_vat, _, f_vat, ?_⟩
  refine (w_fld h1).mpr ⟨fl_other, _, f_other, ?_⟩
  refine (w_fld h1).mpr ⟨fl_sent, _, f_sent, ?_⟩
  refine ⟨sz (by simp), v, o, s + 1, c, k, rfl, ⟨hv, ho, by omega, hc, hk⟩, fun x M2 hx ax g2 => ?_⟩
  have k1 := g2 p _ h1
  have k2 := g2 a _ h2
  refine (w_fld k1).mpr ⟨fl_kept, _, f_kept, ?_⟩
  refine (w_fld k1).mpr ⟨fl_sent, _, f_sent, ?_⟩
  refine (w_setD k2).mpr ⟨⟨rfl, Nat.lt_of_le_of_lt hl (by decide)⟩, ?_⟩
  have nxp : x ≠ p := by rintro rfl; rw [h1] at hx; cases hx
  have nxa : x ≠ a := by rintro rfl; rw [h2] at hx; cases hx
  have k3 : mset M2 a (.dct (dput kvs (.int ((s + 1 : Nat) : Int)) (.ref x))) p = some (.ins 0 (fs v o ((s + 1 : Nat) : Int) a b)) := (mset_ne npa.symm).trans k1
  refine (w_fld k3).mpr ⟨fl_sent, _, f_sent, ?_⟩
  refine q x _ (by rw [← h3 x nxp]; exact hx) ((mset_ne nxa).trans ax) k3 mset_same fun c o hcp hca e => ?_
  rw [mset_ne hca]
  exact g2 c o (by rw [h3 c hcp]; exact e)
theorem ok_accept : Keeps P0 sp10 2 b_Line_accept := by
  rintro ds M Q X ⟨p, a, b, v, o, s, n, ns, rfl, hp, hb, hl, q1, q2⟩
  show wpSs P0 b_Line_accept _ _ [some (.ref p), some (.int n)] M
  unfold b_Line_accept
  simp only [wpSs, wpS, wpE, wpEs, wpT, L3.w_add, L3.w_addS, L3.w_addT, L3.w_sub, L3.w_mul, L3.w_fdiv, L3.w_mod, L3.w_pow, L3.w_iadd, L3.w_isub, L3.w_neg, L3.w_lt, L3.w_le, L3.w_gt, L3.w_ge, L3.w_eq, L3.w_ne, L3.w_in, L3.w_nin, L3.w_tb, L3.w_ti, L3.w_tt, L3.w_ix0, L3.w_ix1, L3.w_ix2, L3.w_lenT, L3.w_lenK, L3.w_int, L3.w_max, L3.w_min, L3.w_rng1, L3.w_rng2, L3.w_one, L3.w_ixK, L3.w_itS, L3.w_lenS, L3.w_many, L3.w_eqS, List.getElem?_cons_zero, List.getElem?_cons_succ, List.set_cons_zero, List.set_cons_succ, Option.some.injEq, exists_eq_left', decide_eq_true_eq, Bool.false_eq_true, if_false, if_true, Bool.not_true, Bool.not_false]
  refine (w_fld hp).mpr ⟨fl_known, _, f_known, (w_inD hb).mpr ⟨rfl, ?_⟩⟩
  rw [dhas_known]
  simp only [wpSs, wpS, wpE, wpEs, wpT, L3.w_add, L3.w_addS, L3.w_addT, L3.w_sub, L3.w_mul, L3.w_fdiv, L3.w_mod, L3.w_pow, L3.w_iadd, L3.w_isub, L3.w_neg, L3.w_lt, L3.w_le, L3.w_gt, L3.w_ge, L3.w_eq, L3.w_ne, L3.w_in, L3.w_nin, L3.w_tb, L3.w_ti, L3.w_tt, L3.w_ix0, L3.w_ix1, L3.w_ix2, L3.w_lenT, L3.w_lenK, L3.w_int, L3.w_max, L3.w_min, L3.w_rng1, L3.w_rng2, L3.w_one, L3.w_ixK, L3.w_itS, L3.w_lenS, L3.w_many, L3.w_eqS, List.getElem?_cons_zero, List.getElem?_cons_succ, List.set_cons_zero, List.set_cons_succ, Option.some.injEq, exists_eq_left', decide_eq_true_eq, Bool.false_eq_true, if_false, if_true, Bool.not_true, Bool.not_false]
  have key : (∃ m ∈ ns, (m : Int) = (n : Int)) ↔ n ∈ ns := by
    constructor
    · rintro ⟨m, hm, e⟩
      have : m = n := by omega
      rw [← this]; exact hm
    · intro h
      exact ⟨n, h, rfl⟩
  simp only [key]
  split
  · rename_i h; exact q1 h
  · rename_i h
    refine (w_fld hp).mpr ⟨fl_known, _, f_known, (w_setD hb).mpr ⟨⟨rfl, by unfold known; rw [List.length_map]; exact Nat.lt_of_le_of_lt hl (by decide)⟩, ?_⟩⟩
    have e : dput (known ns) (.int (n : Int)) (.bl true) = known (ns ++ [n]) := by
      unfold dput
      rw [dhas_known, if_neg (by rw [decide_eq_false (fun z => h (key.mp z))]; exact Bool.false_ne_true)]
      simp [known]
    rw [e]
    exact q2 h
def q1 (v : Int) : List (Str × D) := [("vat", .int v)]
def q2 (v o : Int) : List (Str × D) := [("vat", .int v), ("other", .int o)]
def q3 (v o : Int) : List (Str × D) := [("vat", .int v), ("other", .int o), ("sent", .int 0)]
def q4 (v o : Int) (a : Addr) : List (Str × D) := [("vat", .int v), ("other", .int o), ("sent", .int 0), ("kept", .ref a)]
theorem pf1 {v : Int} : putFd "vat" (.int v) [] = q1 v := rfl
theorem pf2 {v o : Int} : putFd "other" (.int o) (q1 v) = q2 v o := by
  unfold q1 q2 putFd putFd
  rw [if_neg (by decide +kernel)]
theorem pf3 {v o : Int} : putFd "sent" (.int 0) (q2 v o) = q3 v o := by
  unfold q2 q3 putFd putFd putFd
  rw [if_neg (by decide +kernel), if_neg (by decide +kernel)]
theorem pf4 {v o : Int} {a : Addr} : putFd "kept" (.ref a) (q3 v o) = q4 v o a := by
  unfold q3 q4 putFd putFd putFd putFd
  rw [if_neg (by decide +kernel), if_neg (by decide +kernel), if_neg (by decide +kernel)]
theorem pf5 {v o : Int} {a b : Addr} : putFd "known" (.ref b) (q4 v o a) = fs v o 0 a b := by
  unfold fs q4 putFd putFd putFd putFd putFd
  rw [if_neg (by decide +kernel), if_neg (by decide +kernel), if_neg (by decide +kernel), if_neg (by decide +kernel)]
theorem ok_init : Keeps P0 sp11 3 b_Line___init__ := by
  rintro ds M Q X ⟨p, v, o, rfl, hp, q⟩
  show wpSs P0 b_Line___init__ _ _ [some (.ref p), some (.int v), some (.int o)] M
  unfold b_Line___init__
  simp only [wpSs, wpS, wpE, wpEs, wpT, L3.w_add, L3.w_addS, L3.w_addT, L3.w_sub, L3.w_mul, L3.w_fdiv, L3.w_mod, L3.w_pow, L3.w_iadd, L3.w_isub, L3.w_neg, L3.w_lt, L3.w_le, L3.w_gt, L3.w_ge, L3.w_eq, L3.w_ne, L3.w_in, L3.w_nin, L3.w_tb, L3.w_ti, L3.w_tt, L3.w_ix0, L3.w_ix1, L3.w_ix2, L3.w_lenT, L3.w_lenK, L3.w_int, L3.w_max, L3.w_min, L3.w_rng1, L3.w_rng2, L3.w_one, L3.w_ixK, L3.w_itS, L3.w_lenS, L3.w_many, L3.w_eqS, List.getElem?_cons_zero, List.getElem?_cons_succ, List.set_cons_zero, List.set_cons_succ, Option.some.injEq, exists_eq_left', decide_eq_true_eq, Bool.false_eq_true, if_false, if_true, Bool.not_true, Bool.not_false]
  refine (w_setFld hp).mpr ⟨⟨fl_vat, by decide⟩, ?_⟩
  rw [pf1]
  refine (w_setFld (c := 0) (fs := q1 v) mset_same).mpr ⟨⟨fl_other, by show 1 < 900; decide⟩, ?_⟩
  rw [pf2]
  refine (w_setFld (c := 0) (fs := q2 v o) mset_same).mpr ⟨⟨fl_sent, by show 2 < 900; decide⟩, ?_⟩
  rw [pf3, mset_mset, mset_mset]
  have h1 : mset M p (.ins 0 (q3 v o)) p = some (.ins 0 (q3 v o)) := mset_same
  have h3 : ∀ c, c ≠ p → mset M p (.ins 0 (q3 v o)) c = M c := fun c hc => mset_ne hc
  revert h1 h3
  generalize mset M p (.ins 0 (q3 v o)) = M1
  intro h1 h3
  refine ⟨rfl, fun a ha => ?_⟩
  have npa : p ≠ a := by rintro rfl; rw [h1] at ha; cases ha
  refine (w_setFld (c := 0) (fs := q3 v o) ((mset_ne npa).trans h1)).mpr ⟨⟨fl_kept, by show 3 < 900; decide⟩, ?_⟩
  rw [pf4]
  refine ⟨rfl, fun b hb => ?_⟩
  have npb : p ≠ b := by rintro rfl; rw [mset_same] at hb; cases hb
  have nab : a ≠ b := by rintro rfl; rw [mset_ne npa.symm, mset_same] at hb; cases hb
  refine (w_setFld (c := 0) (fs := q4 v o a) ((mset_ne npb).trans mset_same)).mpr ⟨⟨fl_known, by show 4 < 900; decide⟩, ?_⟩
  rw [pf5]
  refine q a b _ (by rw [← h3 a npa.symm]; exact ha) ?_ nab mset_same ?_ ?_ fun c h1 h2 h4 => ?_
  · rw [← h3 b npb.symm]
    rw [mset_ne npb.symm, mset_ne nab.symm] at hb
    exact hb
  · rw [mset_ne npa.symm, mset_ne nab, mset_ne npa.symm, mset_same]
  · rw [mset_ne npb.symm, mset_same]
  · rw [mset_ne h1, mset_ne h4, mset_ne h1, mset_ne h2, h3 c h1]
end K51
end
section
set_option Elab.async false
set_option autoImplicit false
set_option linter.all false
set_option maxRecDepth 100000
set_option exponentiation.threshold 3000
/-! k51: acknowledged, the digits, the text of a dict -/
namespace K51
open L3
open PySem (Addr Str PyData)

theorem dhas_kv {rs : List (Int × D)} {n : Int} : dhas (kv rs) (.int n) = decide (n ∈ rs.map (·.1)) := by
  unfold dhas kv
  rw [List.any_map, Bool.eq_iff_iff, List.any_eq_true, decide_eq_true_eq, List.mem_map]
  constructor
  · rintro ⟨m, hm, h⟩
    have h' : (D.int m.1).eqv (.int n) = true := h
    rw [eqv_int] at h'
    exact ⟨m, hm, of_decide_eq_true h'⟩
  · rintro ⟨m, hm, h⟩
    refine ⟨m, hm, ?_⟩
    show (D.int m.1).eqv (.int n) = true
    rw [eqv_int]
    exact decide_eq_true h
theorem dput_kv {rs : List (Int × D)} {n : Int} {v : D} (h : n ∉ rs.map (·.1)) : dput (kv rs) (.int n) v = kv (rs ++ [(n, v)]) := by
  unfold dput
  rw [dhas_kv, if_neg (by rw [decide_eq_false h]; exact Bool.false_ne_true)]
  simp [kv]
theorem kv_len {rs : List (Int × D)} : (kv rs).length = rs.length := by simp [kv]
theorem dc_keep {body : D → Mp → (Option (D × D) → Mp → Prop) → Prop} {G : Mp → Prop} {n : Int} {M : Mp} {Q : List (D × D) → Mp → Prop} (hG : G M)
    (hb : ∀ (i : Int) (v : D) (kk : Option (D × D) → Mp → Prop), kk (if n < i then some (.int i, v) else none) M → body (.tup [.int i, v]) M kk) :
    ∀ (rs acc : List (Int × D)), ((acc ++ rs).map (·.1)).Nodup → (acc ++ rs).length ≤ 1000 → Q (kv (acc ++ rs.filter fun r => decide (n < r.1))) M → dcompL body G ((kv rs).map fun p => .tup [p.1, p.2]) (kv acc) M Q := by
  intro rs
  induction rs with
  | nil => intro acc hn hl q; exact ⟨hG, by simpa using q⟩
  | cons r rs ih =>
    intro acc hn hl q
    refine ⟨hG, hb r.1 r.2 _ ?_⟩
    by_cases h : n < r.1
    · rw [if_pos h]
      refine ⟨⟨rfl, ?_⟩, ?_⟩
      · rw [kv_len]
        rw [List.length_append] at hl
        show _ < 2 ^ 24
        omega
      · show dcompL body G _ (dput (kv acc) (.int r.1) r.2) M Q
        rw [dput_kv]
        · refine ih (acc ++ [r]) (by simpa using hn) (by simpa using hl) ?_
          rw [List.filter_cons, if_pos (decide_eq_true h)] at q
          simpa using q
        · intro hm
          rw [List.map_append, List.nodup_append] at hn
          exact hn.2.2 _ hm _ (List.mem_cons_self ..) rfl
    · rw [if_neg h]
      refine ih acc ?_ ?_ ?_
      · refine List.Nodup.sublist ?_ hn
        refine List.Sublist.map _ ?_
        exact List.Sublist.append (List.Sublist.refl _) (List.sublist_cons_self ..)
      · simp at hl ⊢; omega
      · rw [List.filter_cons, if_neg (by simpa using h)] at q
        exact q
theorem ok_ack : Keeps P0 sp9 4 b_Line_acknowledged := by
  rintro ds M Q X ⟨p, a, b, v, o, s, n, rs, rfl, hp, ha, hn, hl, q⟩
  show wpSs P0 b_Line_acknowledged _ _ [some (.ref p), some (.int n), none, none] M
  have npa : p ≠ a := by rintro rfl; rw [hp] at ha; cases ha
  unfold b_Line_acknowledged
  simp only [wpSs, wpS, wpE, wpEs, wpT, L3.w_add, L3.w_addS, L3.w_addT, L3.w_sub, L3.w_mul, L3.w_fdiv, L3.w_mod, L3.w_pow, L3.w_iadd, L3.w_isub, L3.w_neg, L3.w_lt, L3.w_le, L3.w_gt, L3.w_ge, L3.w_eq, L3.w_ne, L3.w_in, L3.w_nin, L3.w_tb, L3.w_ti, L3.w_tt, L3.w_ix0, L3.w_ix1, L3.w_ix2, L3.w_lenT, L3.w_lenK, L3.w_int, L3.w_max, L3.w_min, L3.w_rng1, L3.w_rng2, L3.w_one, L3.w_ixK, L3.w_itS, L3.w_lenS, L3.w_many, L3.w_eqS, List.getElem?_cons_zero, List.getElem?_cons_succ, List.set_cons_zero, List.set_cons_succ, Option.some.injEq, exists_eq_left', decide_eq_true_eq, Bool.false_eq_true, if_false, if_true, Bool.not_true, Bool.not_false]
  refine (w_fld hp).mpr ⟨fl_kept, _, f_kept, (w_itI ha).mpr ?_⟩
  refine dc_keep (n := n) mset_same (fun i v kk h => ?_) rs [] (by simpa using hn) (by simpa using hl) ?_
  · refine ⟨_, rfl, ?_⟩
    have ew : wipeL [2, 3] [some (D.ref p), some (D.int n), none, none] = [some (D.ref p), some (D.int n), none, none] := rfl
    simp only [ew, wpSs, wpS, wpE, wpEs, wpT, L3.w_add, L3.w_addS, L3.w_addT, L3.w_sub, L3.w_mul, L3.w_fdiv, L3.w_mod, L3.w_pow, L3.w_iadd, L3.w_isub, L3.w_neg, L3.w_lt, L3.w_le, L3.w_gt, L3.w_ge, L3.w_eq, L3.w_ne, L3.w_in, L3.w_nin, L3.w_tb, L3.w_ti, L3.w_tt, L3.w_ix0, L3.w_ix1, L3.w_ix2, L3.w_lenT, L3.w_lenK, L3.w_int, L3.w_max, L3.w_min, L3.w_rng1, L3.w_rng2, L3.w_one, L3.w_ixK, L3.w_itS, L3.w_lenS, L3.w_many, L3.w_eqS, List.getElem?_cons_zero, List.getElem?_cons_succ, List.set_cons_zero, List.set_cons_succ, Option.some.injEq, exists_eq_left', decide_eq_true_eq, Bool.false_eq_true, if_false, if_true, Bool.not_true, Bool.not_false]
    by_cases e : n < i
    · rw [if_pos e] at h
      simpa [e] using h
    · rw [if_neg e] at h
      simpa [e] using h
  · rw [List.nil_append]
    have eu : unlk a (mset M a (.lck (kv rs))) = mset M a (.dct (kv rs)) := by
      unfold unlk
      rw [mset_same]
      exact mset_mset
    have em : mset M a (.dct (kv rs)) = M := by
      funext c
      by_cases hc : c = a
      · subst hc; rw [mset_same, ha]
      · rw [mset_ne hc]
    rw [eu, em]
    intro x hx
    have nxp : p ≠ x := by rintro rfl; rw [hp] at hx; cases hx
    refine (w_setFld ((mset_ne nxp).trans hp)).mpr ⟨⟨fl_kept, by show 5 < 900; decide⟩, ?_⟩
    rw [putF_kept]
    exact q x _ hx ((mset_ne nxp.symm).trans mset_same) mset_same fun c h1 h2 => (mset_ne h1).trans (mset_ne h2)
theorem ok_digits : Keeps P0 sp13 8 b__law_digits := by
  rintro ds M Q X ⟨ns, rfl, q⟩
  show wpSs P0 b__law_digits _ _ [some (.kl (ns.map .int)), some (.int 0), some (.int 40), none, none, none, none, none] M
  unfold b__law_digits
  simp only [wpSs, wpS, wpE, wpEs, wpT, L3.w_add, L3.w_addS, L3.w_addT, L3.w_sub, L3.w_mul, L3.w_fdiv, L3.w_mod, L3.w_pow, L3.w_iadd, L3.w_isub, L3.w_neg, L3.w_lt, L3.w_le, L3.w_gt, L3.w_ge, L3.w_eq, L3.w_ne, L3.w_in, L3.w_nin, L3.w_tb, L3.w_ti, L3.w_tt, L3.w_ix0, L3.w_ix1, L3.w_ix2, L3.w_lenT, L3.w_lenK, L3.w_int, L3.w_max, L3.w_min, L3.w_rng1, L3.w_rng2, L3.w_one, L3.w_ixK, L3.w_itS, L3.w_lenS, L3.w_many, L3.w_eqS, List.getElem?_cons_zero, List.getElem?_cons_succ, List.set_cons_zero, List.set_cons_succ, Option.some.injEq, exists_eq_left', decide_eq_true_eq, Bool.false_eq_true, if_false, if_true, Bool.not_true, Bool.not_false]
  refine ⟨by decide, fun p hp => ?_⟩
  simp only [wpSs, wpS, wpE, wpEs, wpT, L3.w_add, L3.w_addS, L3.w_addT, L3.w_sub, L3.w_mul, L3.w_fdiv, L3.w_mod, L3.w_pow, L3.w_iadd, L3.w_isub, L3.w_neg, L3.w_lt, L3.w_le, L3.w_gt, L3.w_ge, L3.w_eq, L3.w_ne, L3.w_in, L3.w_nin, L3.w_tb, L3.w_ti, L3.w_tt, L3.w_ix0, L3.w_ix1, L3.w_ix2, L3.w_lenT, L3.w_lenK, L3.w_int, L3.w_max, L3.w_min, L3.w_rng1, L3.w_rng2, L3.w_one, L3.w_ixK, L3.w_itS, L3.w_lenS, L3.w_many, L3.w_eqS, List.getElem?_cons_zero, List.getElem?_cons_succ, List.set_cons_zero, List.set_cons_succ, Option.some.injEq, exists_eq_left', decide_eq_true_eq, Bool.false_eq_true, if_false, if_true, Bool.not_true, Bool.not_false]
  refine ⟨⟨sm (by decide) (by decide), sm (by decide) (by decide)⟩, forL_inv (fun i σ M' => But p M M' ∧ ∃ (ys : List Int) (a b c e : Option D), M' p = some (.lst (ys.map .int)) ∧ ys.length ≤ 60 * i ∧ σ = [some (.kl (ns.map .int)), some (.int 0), some (.int 40), some (.ref p), a, b, c, e])
    ⟨fun c hc => mset_ne hc, [], none, none, none, none, mset_same, Nat.le_refl _, rfl⟩ ?_ ?_⟩
  · rintro i x σ M' nx hx ⟨bt, ys, a, b, c, e, hM, hl, rfl⟩ hnx
    obtain ⟨hi, rfl⟩ := dRange_get' hx
    have hi : i < 40 := hi
    refine ⟨trivial, ?_⟩
    unfold b__law_digits_2
    simp only [wpSs, wpS, wpE, wpEs, wpT, L3.w_add, L3.w_addS, L3.w_addT, L3.w_sub, L3.w_mul, L3.w_fdiv, L3.w_mod, L3.w_pow, L3.w_iadd, L3.w_isub, L3.w_neg, L3.w_lt, L3.w_le, L3.w_gt, L3.w_ge, L3.w_eq, L3.w_ne, L3.w_in, L3.w_nin, L3.w_tb, L3.w_ti, L3.w_tt, L3.w_ix0, L3.w_ix1, L3.w_ix2, L3.w_lenT, L3.w_lenK, L3.w_int, L3.w_max, L3.w_min, L3.w_rng1, L3.w_rng2, L3.w_one, L3.w_ixK, L3.w_itS, L3.w_lenS, L3.w_many, L3.w_eqS, List.getElem?_cons_zero, List.getElem?_cons_succ, List.set_cons_zero, List.set_cons_succ, Option.some.injEq, exists_eq_left', decide_eq_true_eq, Bool.false_eq_true, if_false, if_true, Bool.not_true, Bool.not_false]
    refine ⟨ns, i, by simp, fun n => ?_⟩
    have rest : ∀ n : Int, wpSs P0 (.cons (.ite (.val (.cmp .ge (.var 5) (.bin .pow (.int 10) (.int 18)))) (.cons (.for (.one 6) .range (.cons (.int 60) .nil) b__law_digits_0) .nil) (.cons (.set (.one 7) (.bin .mod (.blt .int (.cons (.bin .add (.bin .add (.bin .mul (.var 5) (.int 48271)) (.bin .mul (.var 4) (.int 69621))) (.int 11)) .nil)) (.int 2147483647))) (.cons (.for (.one 6) .range (.cons (.int 12) .nil) b__law_digits_1) .nil))) .nil) (fun x σ M => X x (id M))
        ⟨nx, fun d M => Q d (id M), fun σ M => wpSs P0 (.cons (.ret (.var 3)) .nil) (fun x _ M => X x M) ⟨fun _ M => Q .non M, Q, fun _ _ => False, fun _ _ => False⟩ σ (id M), nx⟩ [some (.kl (ns.map .int)), some (.int 0), some (.int 40), some (.ref p), some (.int (0 + (i : Int))), some (.int n), c, e] M' := fun n => by
      simp only [wpSs, wpS, wpE, wpEs, wpT, L3.w_add, L3.w_addS, L3.w_addT, L3.w_sub, L3.w_mul, L3.w_fdiv, L3.w_mod, L3.w_pow, L3.w_iadd, L3.w_isub, L3.w_neg, L3.w_lt, L3.w_le, L3.w_gt, L3.w_ge, L3.w_eq, L3.w_ne, L3.w_in, L3.w_nin, L3.w_tb, L3.w_ti, L3.w_tt, L3.w_ix0, L3.w_ix1, L3.w_ix2, L3.w_lenT, L3.w_lenK, L3.w_int, L3.w_max, L3.w_min, L3.w_rng1, L3.w_rng2, L3.w_one, L3.w_ixK, L3.w_itS, L3.w_lenS, L3.w_many, L3.w_eqS, List.getElem?_cons_zero, List.getElem?_cons_succ, List.set_cons_zero, List.set_cons_succ, Option.some.injEq, exists_eq_left', decide_eq_true_eq, Bool.false_eq_true, if_false, if_true, Bool.not_true, Bool.not_false]
      refine ⟨⟨by decide, by decide, by decide⟩, ?_⟩
      split
      · refine ⟨sm (by decide) (by decide), forL_inv (fun j σ M' => But p M M' ∧ ∃ (ys : List Int) (n : Int) (c : Option D), M' p = some (.lst (ys.map .int)) ∧ ys.length ≤ 60 * i + j ∧ σ = [some (.kl (ns.map .int)), some (.int 0), some (.int 40), some (.ref p), some (.int (0 + (i : Int))), some (.int n), c, e]) ⟨bt, ys, n, c, hM, hl, rfl⟩ ?_ ?_⟩
        · rintro j x σ M' nx2 hx2 ⟨bt, ys, n, c, hM, hl, rfl⟩ hnx2
          obtain ⟨hj, rfl⟩ := dRange_get' hx2
          have hj : j < 60 := hj
          refine ⟨trivial, ?_⟩
          unfold b__law_digits_0
          simp only [wpSs, wpS, wpE, wpEs, wpT, L3.w_add, L3.w_addS, L3.w_addT, L3.w_sub, L3.w_mul, L3.w_fdiv, L3.w_mod, L3.w_pow, L3.w_iadd, L3.w_isub, L3.w_neg, L3.w_lt, L3.w_le, L3.w_gt, L3.w_ge, L3.w_eq, L3.w_ne, L3.w_in, L3.w_nin, L3.w_tb, L3.w_ti, L3.w_tt, L3.w_ix0, L3.w_ix1, L3.w_ix2, L3.w_lenT, L3.w_lenK, L3.w_int, L3.w_max, L3.w_min, L3.w_rng1, L3.w_rng2, L3.w_one, L3.w_ixK, L3.w_itS, L3.w_lenS, L3.w_many, L3.w_eqS, List.getElem?_cons_zero, List.getElem?_cons_succ, List.set_cons_zero, List.set_cons_succ, Option.some.injEq, exists_eq_left', decide_eq_true_eq, Bool.false_eq_true, if_false, if_true, Bool.not_true, Bool.not_false]
          split
          · refine ⟨by rw [w_rcvL hM]; rfl, by decide, trivial, (w_app hM).mpr ⟨by rw [List.length_map]; show _ < 2 ^ 24; omega, ⟨by decide, by decide⟩, hnx2 _ _ ⟨fun k hk => (mset_ne hk).trans (bt k hk), ys ++ [n % 1000], n / 1000, _, by rw [mset_same, len_app], by rw [List.length_append]; show ys.length + 1 ≤ _; omega, rfl⟩⟩⟩
          · exact hnx2 _ _ ⟨bt, ys, n, _, hM, by omega, rfl⟩
        · rintro σ M' ⟨bt, ys, n, c, hM, hl, rfl⟩
          rw [dRange_len] at hl
          exact ⟨trivial, hnx _ _ ⟨bt, ys, _, _, _, _, hM, by omega, rfl⟩⟩
      · refine ⟨.inr ⟨by decide, by decide⟩, .inr ⟨by decide, by decide⟩, by decide, sm (by decide) (by decide), forL_inv (fun j σ M' => But p M M' ∧ ∃ (ys : List Int) (z : Int) (c : Option D), M' p = some (.lst (ys.map .int)) ∧ ys.length ≤ 60 * i + j ∧ σ = [some (.kl (ns.map .int)), some (.int 0), some (.int 40), some (.ref p), some (.int (0 + (i : Int))), some (.int n), c, some (.int z)]) ⟨bt, ys, _, c, hM, hl, rfl⟩ ?_ ?_⟩
        · rintro j x σ M' nx2 hx2 ⟨bt, ys, z, c, hM, hl, rfl⟩ hnx2
          obtain ⟨hj, rfl⟩ := dRange_get' hx2
          have hj : j < 12 := hj
          refine ⟨trivial, ?_⟩
          unfold b__law_digits_1
          simp only [wpSs, wpS, wpE, wpEs, wpT, L3.w_add, L3.w_addS, L3.w_addT, L3.w_sub, L3.w_mul, L3.w_fdiv, L3.w_mod, L3.w_pow, L3.w_iadd, L3.w_isub, L3.w_neg, L3.w_lt, L3.w_le, L3.w_gt, L3.w_ge, L3.w_eq, L3.w_ne, L3.w_in, L3.w_nin, L3.w_tb, L3.w_ti, L3.w_tt, L3.w_ix0, L3.w_ix1, L3.w_ix2, L3.w_lenT, L3.w_lenK, L3.w_int, L3.w_max, L3.w_min, L3.w_rng1, L3.w_rng2, L3.w_one, L3.w_ixK, L3.w_itS, L3.w_lenS, L3.w_many, L3.w_eqS, List.getElem?_cons_zero, List.getElem?_cons_succ, List.set_cons_zero, List.set_cons_succ, Option.some.injEq, exists_eq_left', decide_eq_true_eq, Bool.false_eq_true, if_false, if_true, Bool.not_true, Bool.not_false]
          refine ⟨.inr ⟨by decide, by decide⟩, .inl ⟨by decide, by decide⟩, by decide, by rw [w_rcvL hM]; rfl, ⟨by decide, by decide⟩, by decide, trivial, (w_app hM).mpr ⟨by rw [List.length_map]; show _ < 2 ^ 24; omega, hnx2 _ _ ⟨fun k hk => (mset_ne hk).trans (bt k hk), ys ++ [_], _, _, by rw [mset_same, len_app], by rw [List.length_append]; show ys.length + 1 ≤ _; omega, rfl⟩⟩⟩
        · rintro σ M' ⟨bt, ys, z, c, hM, hl, rfl⟩
          rw [dRange_len] at hl
          exact ⟨trivial, hnx _ _ ⟨bt, ys, _, _, _, _, hM, by omega, rfl⟩⟩
    have rest' := rest
    simp only [wpSs, wpS, wpE, wpEs, wpT, L3.w_add, L3.w_addS, L3.w_addT, L3.w_sub, L3.w_mul, L3.w_fdiv, L3.w_mod, L3.w_pow, L3.w_iadd, L3.w_isub, L3.w_neg, L3.w_lt, L3.w_le, L3.w_gt, L3.w_ge, L3.w_eq, L3.w_ne, L3.w_in, L3.w_nin, L3.w_tb, L3.w_ti, L3.w_tt, L3.w_ix0, L3.w_ix1, L3.w_ix2, L3.w_lenT, L3.w_lenK, L3.w_int, L3.w_max, L3.w_min, L3.w_rng1, L3.w_rng2, L3.w_one, L3.w_ixK, L3.w_itS, L3.w_lenS, L3.w_many, L3.w_eqS, List.getElem?_cons_zero, List.getElem?_cons_succ, List.set_cons_zero, List.set_cons_succ, Option.some.injEq, exists_eq_left', decide_eq_true_eq, Bool.false_eq_true, if_false, if_true, Bool.not_true, Bool.not_false] at rest' ⊢
    split
    · exact ⟨.inl ⟨by decide, by decide⟩, rest' _⟩
    · exact rest' n
  · rintro σ M' ⟨bt, ys, a, b, c, e, hM, hl, rfl⟩
    refine ⟨trivial, ?_⟩
    simp only [wpSs, wpS, wpE, wpEs, wpT, L3.w_add, L3.w_addS, L3.w_addT, L3.w_sub, L3.w_mul, L3.w_fdiv, L3.w_mod, L3.w_pow, L3.w_iadd, L3.w_isub, L3.w_neg, L3.w_lt, L3.w_le, L3.w_gt, L3.w_ge, L3.w_eq, L3.w_ne, L3.w_in, L3.w_nin, L3.w_tb, L3.w_ti, L3.w_tt, L3.w_ix0, L3.w_ix1, L3.w_ix2, L3.w_lenT, L3.w_lenK, L3.w_int, L3.w_max, L3.w_min, L3.w_rng1, L3.w_rng2, L3.w_one, L3.w_ixK, L3.w_itS, L3.w_lenS, L3.w_many, L3.w_eqS, List.getElem?_cons_zero, List.getElem?_cons_succ, List.set_cons_zero, List.set_cons_succ, Option.some.injEq, exists_eq_left', decide_eq_true_eq, Bool.false_eq_true, if_false, if_true, Bool.not_true, Bool.not_false]
    exact q p ys M' hp hM bt

/-! the text of a dict of lists -/
structure Tr where
  n : Int
  p : Addr
  q : Addr
  xs : List Int
def dictP (ts : List Tr) : List (PyData × PyData) := ts.map fun t => (.int t.n, .list (t.xs.map .int))
theorem deeps_ints {M : Mp} : ∀ xs : List Int, Deeps M (xs.map D.int) (xs.map PyData.int)
  | [] => .nil
  | x :: xs => .cons (.int x) (deeps_ints xs)
theorem deep_kv {M : Mp} {A : Addr} {ts : List Tr} (f : Tr → Addr) (h : ∀ t ∈ ts, LstAt M (f t) t.xs) (hA : M A = some (.dct (kv (ts.map fun t => (t.n, D.ref (f t)))))) : Deep M (.ref A) (.dict (dictP ts)) := by
  refine .dct hA ?_ ?_
  · clear hA h
    induction ts with
    | nil => exact .nil
    | cons t ts ih => exact .cons (.int _) ih
  · clear hA
    induction ts with
    | nil => exact .nil
    | cons t ts ih => exact .cons (.lst (h t (List.mem_cons_self ..)) (deeps_ints _)) (ih fun u hu => h u (List.mem_cons_of_mem _ hu))
theorem shown_int {i : Int} {k : Nat} (hk : 0 < k) (h : i.natAbs < 2 ^ k) : (PyData.int i).shown.length ≤ k + 1 := by
  show (PySem.Str.ofString (toString i)).length ≤ k + 1
  rw [PySem.ofString_length]
  refine PySem.int_text_length_le hk ?_
  by_cases h0 : i.natAbs = 0
  · rw [h0]; show Nat.log2 0 < k; simpa using hk
  · exact (Nat.log2_lt h0).mpr h
theorem show_int {i : Int} (h : i.natAbs < 2 ^ 1200) : (PyData.int i).showable = true ∧ (PyData.int i).leavesShort 1930 = true := by
  refine ⟨?_, ?_⟩
  · show decide (i.natAbs.log2 < 1920) = true
    refine decide_eq_true ?_
    by_cases h0 : i.natAbs = 0
    · rw [h0]; decide
    · refine (Nat.log2_lt h0).mpr (Nat.lt_of_lt_of_le h ?_)
      exact Nat.pow_le_pow_right (by decide) (by decide)
  · show decide ((PyData.int i).shown.length ≤ 1930) = true
    exact decide_eq_true (Nat.le_trans (shown_int (by decide) h) (by decide))
theorem nat_small {i : Nat} (h : i ≤ 100000) : ((i : Int)).natAbs < 2 ^ 1200 := by
  have : (100000 : Nat) < 2 ^ 1200 := by decide +kernel
  omega
def Small (xs : List Int) : Prop := ∀ x ∈ xs, x.natAbs < 2 ^ 1200
theorem show_ints : ∀ {xs : List Int}, Small xs → PyData.showableAll (xs.map .int) = true ∧ PyData.leavesShortAll 1930 (xs.map .int) = true ∧ PyData.bulkAll (xs.map .int) = xs.length ∧ PyData.depthAll (xs.map .int) = 0
  | [], _ => ⟨rfl, rfl, rfl, rfl⟩
  | x :: xs, h => by
    obtain ⟨a, b, c, d⟩ := show_ints (xs := xs) fun y hy => h y (List.mem_cons_of_mem _ hy)
    obtain ⟨e, f⟩ := show_int (h x (List.mem_cons_self ..))
    refine ⟨?_, ?_, ?_, ?_⟩
    · show (_ && _) = true; rw [e, a]; rfl
    · show (_ && _) = true; rw [f, b]; rfl
    · show 0 + 1 + PyData.bulkAll _ = _; rw [c]; simp; omega
    · show max 0 (PyData.depthAll _) = 0; rw [d]; rfl
theorem show_kv : ∀ {ts : List Tr}, (∀ t ∈ ts, t.n.natAbs < 2 ^ 1200 ∧ Small t.xs ∧ t.xs.length ≤ 20) → PyData.showableKv (dictP ts) = true ∧ PyData.leavesShortKv 1930 (dictP ts) = true ∧ PyData.bulkKv (dictP ts) ≤ 22 * ts.length ∧ PyData.depthKv (dictP ts) ≤ 1
  | [], _ => ⟨rfl, rfl, Nat.le_refl _, Nat.zero_le _⟩
  | t :: ts, h => by
    obtain ⟨a, b, c, d⟩ := show_kv (ts := ts) fun y hy => h y (List.mem_cons_of_mem _ hy)
    obtain ⟨h1, h2, h3⟩ := h t (List.mem_cons_self ..)
    obtain ⟨e, f⟩ := show_int h1
    obtain ⟨i, j, k, l⟩ := show_ints h2
    refine ⟨?_, ?_, ?_, ?_⟩
    · show (_ && PyData.showableAll _ && PyData.showableKv (dictP ts)) = true; rw [e, i, a]; rfl
    · show (_ && PyData.leavesShortAll _ _ && PyData.leavesShortKv _ (dictP ts)) = true; rw [f, j, b]; rfl
    · show 0 + PyData.bulkAll _ + 2 + PyData.bulkKv (dictP ts) ≤ _
      rw [k, List.length_cons]; omega
    · show max (max 0 (PyData.depthAll _ + 1)) (PyData.depthKv (dictP ts)) ≤ 1
      rw [l]; omega
theorem told_kv {M : Mp} {A B : Addr} {ts : List Tr} (h : ∀ t ∈ ts, LstAt M t.p t.xs ∧ LstAt M t.q t.xs ∧ t.n.natAbs < 2 ^ 1200 ∧ Small t.xs ∧ t.xs.length ≤ 20) (hl : ts.length ≤ 100) (hA : M A = some (.dct (kv (ts.map fun t => (t.n, D.ref t.p))))) (hB : M B = some (.dct (kv (ts.map fun t => (t.n, D.ref t.q))))) : Told2 (.ref A) (.ref B) M := by
  obtain ⟨a, b, c, d⟩ := show_kv (ts := ts) fun t ht => (h t ht).2.2
  refine ⟨.dict (dictP ts), deep_kv Tr.p (fun t ht => (h t ht).1) hA, deep_kv Tr.q (fun t ht => (h t ht).2.1) hB, a, ?_, ?_⟩
  · have hb := PyData.shown_le_bulk 1930 (by decide) (.dict (dictP ts)) b
    refine Nat.le_trans hb ?_
    show (1930 + 2) * PyData.bulkKv (dictP ts) + 1930 ≤ 2 ^ 24
    omega
  · show PyData.depthKv (dictP ts) + 1 ≤ 40
    omega
theorem told_int {M : Mp} {i : Int} (h : i.natAbs < 2 ^ 1200) : Told2 (.int i) (.int i) M := by
  obtain ⟨a, b⟩ := show_int h
  refine ⟨_, .int i, .int i, a, ?_, Nat.zero_le _⟩
  refine Nat.le_trans (shown_int (by decide) h) ?_
  show _ ≤ 2 ^ 24
  decide
theorem told_bl {M : Mp} {b : Bool} : Told2 (.bl b) (.bl b) M := ⟨_, .bl b, .bl b, rfl, by cases b <;> (show _ ≤ 2 ^ 24; decide +kernel), Nat.zero_le _⟩
end K51
end
section
set_option Elab.async false
set_option autoImplicit false
set_option linter.all false
set_option maxRecDepth 100000
set_option exponentiation.threshold 3000
/-! k51: the law's heap -/
namespace K51
open L3
open PySem (Addr Str PyData)
def b_k0 : Ss := (.cons (.set (.one 7) (.bin .add (.var 7) (.int 1))) (.cons (.set (.one 10) (.tup (.cons (.str "break") (.cons (.bin .add (.int 1) (.call 0 (.cons (.var 1) (.cons (.int 500) .nil)))) (.cons (.bin .mul (.str "f") (.call 0 (.cons (.var 1) (.cons (.int 5) .nil)))) .nil))))) (.cons (.setIx (.var 5) (.var 7) (.call 7 (.cons (.tup (.cons (.var 2) (.cons (.var 3) (.cons (.var 7) (.cons (.var 10) .nil))))) .nil))) (.cons (.ite (.not (.val (.call 1 (.cons (.umth (.var 4) "put" 0 8 (.cons (.var 10) .nil)) (.cons (.var 7) .nil))))) (.cons (.ret (.bl false)) .nil) .nil) .nil))))
def b_k1 : Ss := (.cons (.set (.one 11) (.call 0 (.cons (.var 1) (.cons (.bin .add (.var 7) (.int 1)) .nil)))) (.cons (.expr (.umth (.var 4) "acknowledged" 0 9 (.cons (.var 11) .nil))) (.cons (.set (.one 12) (.dct .nil)) (.cons (.for (.one 13) .plain (.cons (.var 5) .nil) b_law_1) (.cons (.set (.one 5) (.var 12)) .nil)))))
def b_k2 : Ss := (.cons (.set (.one 13) (.bin .add (.int 1) (.call 0 (.cons (.var 1) (.cons (.int 9) .nil))))) (.cons (.ite (.not (.val (.call 1 (.cons (.umth (.var 4) "accept" 0 10 (.cons (.var 13) .nil)) (.cons (.cmp .notIn (.var 13) (.var 6)) .nil))))) (.cons (.ret (.bl false)) .nil) .nil) (.cons (.expr (.mth (.var 6) .append (.cons (.var 13) .nil))) .nil)))
def b_tail : Ss := (.cons (.set (.one 14) (.int 0)) (.cons (.for (.one 13) .range (.cons (.int 1) (.cons (.int 11) .nil)) b_law_0) (.cons (.ite (.or (.not (.val (.call 1 (.cons (.umth (.var 4) "complete" 0 3 .nil) (.cons (.var 14) .nil))))) (.or (.not (.val (.call 1 (.cons (.fld (.var 4) "kept") (.cons (.var 5) .nil))))) (.not (.val (.call 1 (.cons (.fld (.var 4) "sent") (.cons (.var 7) .nil))))))) (.cons (.ret (.bl false)) .nil) .nil) .nil)))
theorem b_law_2_eq : b_law_2 = .cons (.set (.one 9) (.call 0 (.cons (.var 1) (.cons (.int 4) .nil)))) (.cons (.ite (.val (.cmp .eq (.var 9) (.int 0))) b_k0 (.cons (.ite (.val (.cmp .eq (.var 9) (.int 1))) b_k1 b_k2) .nil)) b_tail) := rfl

def nums (cs : List Nat) : List Int := cs.map fun (n : Nat) => (n : Int)
def Row (M : Mp) (b C : Addr) (t : Tr) : Prop := LstAt M t.p t.xs ∧ LstAt M t.q t.xs ∧ t.p ≠ b ∧ t.p ≠ C ∧ t.q ≠ b ∧ t.q ≠ C
structure Lin (M : Mp) (b d L A B E C : Addr) (v o m : Nat) (ts : List Tr) (ns cs : List Nat) : Prop where
  bx : Box M b d
  ln : M L = some (.ins 0 (fs v o m A B))
  kp : M A = some (.dct (kv (ts.map fun t => (t.n, D.ref t.p))))
  kn : M B = some (.dct (known ns))
  du : M E = some (.dct (kv (ts.map fun t => (t.n, D.ref t.q))))
  cm : LstAt M C (nums cs)
  bC : b ≠ C
  dC : d ≠ C
  AB : A ≠ B
  AE : A ≠ E
  BE : B ≠ E
  rows : ∀ t ∈ ts, Row M b C t
structure Fine (i m : Nat) (ts : List Tr) (ns cs : List Nat) : Prop where
  good : ∀ t ∈ ts, 1 ≤ t.n ∧ t.n ≤ m ∧ Small t.xs ∧ t.xs.length ≤ 20
  nod : (ts.map (·.n)).Nodup
  tl : ts.length ≤ i
  ml : m ≤ i
  nl : ns.length ≤ i
  cl : cs.length ≤ i
  same : ∀ n, n ∈ ns ↔ n ∈ cs
  small : ∀ n ∈ cs, 1 ≤ n ∧ n ≤ 9
theorem Box.ref {M : Mp} {b d : Addr} (h : Box M b d) : ∃ xs, M b = some (.lst xs) := by
  obtain ⟨xs, at_, h1, h2, h3⟩ := h
  exact ⟨_, h1⟩
theorem ne_of {M : Mp} {a b : Addr} {o p : MO} (ha : M a = some o) (hb : M b = some p) (h : o ≠ p) : a ≠ b := by
  rintro rfl
  rw [ha] at hb
  exact h (Option.some.inj hb)
theorem ne_new {M : Mp} {a b : Addr} {o : MO} (ha : M a = some o) (hb : M b = none) : a ≠ b := by
  rintro rfl
  rw [ha] at hb
  cases hb
section
variable {M M' : Mp} {b d L A B E C : Addr} {v o m i : Nat} {ts : List Tr} {ns cs : List Nat}
theorem Lin.draw (h : Lin M b d L A B E C v o m ts ns cs) (bt : But b M M') (bx : Box M' b d) : Lin M' b d L A B E C v o m ts ns cs := by
  obtain ⟨xs, hb⟩ := h.bx.ref
  refine ⟨bx, (bt L ?_).trans h.ln, (bt A ?_).trans h.kp, (bt B ?_).trans h.kn, (bt E ?_).trans h.du, (bt C h.bC.symm).trans h.cm, h.bC, h.dC, h.AB, h.AE, h.BE, fun t ht => ?_⟩
  · exact ne_of h.ln hb (fun z => nomatch z)
  · exact ne_of h.kp hb (fun z => nomatch z)
  · exact ne_of h.kn hb (fun z => nomatch z)
  · exact ne_of h.du hb (fun z => nomatch z)
  · obtain ⟨a1, a2, a3, a4, a5, a6⟩ := h.rows t ht
    exact ⟨(bt _ a3).trans a1, (bt _ a5).trans a2, a3, a4, a5, a6⟩
theorem Lin.grow (h : Lin M b d L A B E C v o m ts ns cs) (g : Grow M M') : Lin M' b d L A B E C v o m ts ns cs := by
  obtain ⟨xs, at_, h1, h2, h3⟩ := h.bx
  refine ⟨⟨xs, at_, g _ _ h1, g _ _ h2, h3⟩, g _ _ h.ln, g _ _ h.kp, g _ _ h.kn, g _ _ h.du, g _ _ h.cm, h.bC, h.dC, h.AB, h.AE, h.BE, fun t ht => ?_⟩
  obtain ⟨a1, a2, a3, a4, a5, a6⟩ := h.rows t ht
  exact ⟨g _ _ a1, g _ _ a2, a3, a4, a5, a6⟩
theorem rows_to (hl : ∀ c l, c ≠ b → c ≠ C → M c = some (.lst l) → M' c = some (.lst l)) (h : ∀ t ∈ ts, Row M b C t) : ∀ t ∈ ts, Row M' b C t := fun t ht => by
  obtain ⟨a1, a2, a3, a4, a5, a6⟩ := h t ht
  exact ⟨hl _ _ a3 a4 a1, hl _ _ a5 a6 a2, a3, a4, a5, a6⟩
theorem box_to (hl : ∀ c l, M c = some (.lst l) → M' c = some (.lst l)) (h : Box M b d) : Box M' b d := by
  obtain ⟨xs, at_, h1, h2, h3⟩ := h
  exact ⟨xs, at_, hl _ _ h1, hl _ _ h2, h3⟩
theorem pk_fine {v o n c k : Nat} (h : v ≤ 100 ∧ o ≤ 100 ∧ n ≤ 100 ∧ c ≤ 1000 ∧ k ≤ 4) : Small (pk v o n c k) ∧ (pk v o n c k).length ≤ 20 := by
  have wsm : ∀ {n : Nat}, n < 16384 → Small (wc n) ∧ (wc n).length ≤ 2 := fun {n} hn => by
    refine ⟨?_, wc_two hn⟩
    have big : (100000 : Nat) < 2 ^ 1200 := by decide +kernel
    by_cases h1 : n < 128
    · rw [wc_small h1]
      intro x hx
      rw [List.mem_singleton] at hx
      subst hx
      omega
    · rw [wc.eq_1 n, dif_pos (by omega), wc_small (n := n / 128) (by omega)]
      intro x hx
      rcases List.mem_cons.mp hx with rfl | hx
      · omega
      · rw [List.mem_singleton] at hx
        subst hx
        omega
  obtain ⟨a1, b1⟩ := wsm (n := v) (by omega)
  obtain ⟨a2, b2⟩ := wsm (n := o) (by omega)
  obtain ⟨a3, b3⟩ := wsm (n := n) (by omega)
  obtain ⟨a4, b4⟩ := wsm (n := c) (by omega)
  obtain ⟨a5, b5⟩ := wsm (n := k) (by omega)
  have app : ∀ {xs ys : List Int}, Small xs → Small ys → Small (xs ++ ys) := fun {xs ys} hx hy z hz => (List.mem_append.mp hz).elim (hx z) (hy z)
  have big : (100000 : Nat) < 2 ^ 1200 := by decide +kernel
  have one : ∀ n : Nat, n ≤ 100000 → Small [(n : Int)] := fun n hn x hx => by
    rw [List.mem_singleton] at hx
    subst hx
    omega
  refine ⟨?_, ?_⟩
  · refine app (app (app (app (app (one 1 (by omega)) a1) a2) a3) (one 2 (by omega))) (app a4 (app a5 fun x hx => ?_))
    rw [List.mem_replicate] at hx
    rw [hx.2]
    have : ((69 : Int)).natAbs = 69 := rfl
    omega
  · unfold pk
    simp only [List.length_append, List.length_cons, List.length_nil, List.length_replicate]
    omega
theorem mul_f {k : Nat} (h : k < 5) : PySem.MulOk ("f" : Str) (k : Int) ∧ PySem.Txt.mul ("f" : Str) (k : Int) = effs k := by
  match k, h with
  | 0, _ => exact ⟨by unfold PySem.MulOk; decide +kernel, by decide +kernel⟩
  | 1, _ => exact ⟨by unfold PySem.MulOk; decide +kernel, by decide +kernel⟩
  | 2, _ => exact ⟨by unfold PySem.MulOk; decide +kernel, by decide +kernel⟩
  | 3, _ => exact ⟨by unfold PySem.MulOk; decide +kernel, by decide +kernel⟩
  | 4, _ => exact ⟨by unfold PySem.MulOk; decide +kernel, by decide +kernel⟩
variable {KL : List D} {X : D → Lo → Mp → Prop} {nx bk ct : Lo → Mp → Prop} {rt : Post} {e8 e9 e10 e11 e12 e13 e14 : Option D}
theorem f_none {v o s : Int} {a b : Addr} {x : Str} (h1 : (x == ("vat" : Str)) = false) (h2 : (x == ("other" : Str)) = false) (h3 : (x == ("sent" : Str)) = false) (h4 : (x == ("kept" : Str)) = false) (h5 : (x == ("known" : Str)) = false) : (fs v o s a b).lookup x = none := by
  unfold fs
  simp only [List.lookup_cons, h1, h2, h3, h4, h5, List.lookup_nil]
theorem ok_k0 (h : Lin M b d L A B E C v o m ts ns cs) (f : Fine i m ts ns cs) (hi : i ≤ 40) (hv : v ≤ 100) (ho : o ≤ 100)
    (q : ∀ M' ts' e, Lin M' b d L A B E C v o (m + 1) ts' ns cs → Fine (i + 1) (m + 1) ts' ns cs → nx [some (.kl KL), some (.ref b), some (.int (v : Nat)), some (.int (o : Nat)), some (.ref L), some (.ref E), some (.ref C), some (.int ((m + 1 : Nat))), e8, e9, e, e11, e12, e13, e14] M') :
    wpSs P0 b_k0 X ⟨nx, rt, bk, ct⟩ [some (.kl KL), some (.ref b), some (.int (v : Nat)), some (.int (o : Nat)), some (.ref L), some (.ref E), some (.ref C), some (.int ((m : Nat))), e8, e9, e10, e11, e12, e13, e14] M := by
  unfold b_k0
  simp only [wpSs, wpS, wpE, wpEs, wpT, L3.w_add, L3.w_addS, L3.w_addT, L3.w_sub, L3.w_mul, L3.w_fdiv, L3.w_mod, L3.w_pow, L3.w_iadd, L3.w_isub, L3.w_neg, L3.w_lt, L3.w_le, L3.w_gt, L3.w_ge, L3.w_eq, L3.w_ne, L3.w_in, L3.w_nin, L3.w_tb, L3.w_ti, L3.w_tt, L3.w_ix0, L3.w_ix1, L3.w_ix2, L3.w_lenT, L3.w_lenK, L3.w_int, L3.w_max, L3.w_min, L3.w_rng1, L3.w_rng2, L3.w_one, L3.w_ixK, L3.w_itS, L3.w_lenS, L3.w_many, L3.w_eqS, List.getElem?_cons_zero, List.getElem?_cons_succ, List.set_cons_zero, List.set_cons_succ, Option.some.injEq, exists_eq_left', decide_eq_true_eq, Bool.false_eq_true, if_false, if_true, Bool.not_true, Bool.not_false]
  refine ⟨b, d, 500, rfl, by decide, h.bx, fun r M1 r0 r1 bx1 bt1 => ?_⟩
  obtain ⟨r, rfl⟩ := Int.eq_ofNat_of_zero_le r0
  have h1 := h.draw bt1 bx1
  simp only [wpSs, wpS, wpE, wpEs, wpT, L3.w_add, L3.w_addS, L3.w_addT, L3.w_sub, L3.w_mul, L3.w_fdiv, L3.w_mod, L3.w_pow, L3.w_iadd, L3.w_isub, L3.w_neg, L3.w_lt, L3.w_le, L3.w_gt, L3.w_ge, L3.w_eq, L3.w_ne, L3.w_in, L3.w_nin, L3.w_tb, L3.w_ti, L3.w_tt, L3.w_ix0, L3.w_ix1, L3.w_ix2, L3.w_lenT, L3.w_lenK, L3.w_int, L3.w_max, L3.w_min, L3.w_rng1, L3.w_rng2, L3.w_one, L3.w_ixK, L3.w_itS, L3.w_lenS, L3.w_many, L3.w_eqS, List.getElem?_cons_zero, List.getElem?_cons_succ, List.set_cons_zero, List.set_cons_succ, Option.some.injEq, exists_eq_left', decide_eq_true_eq, Bool.false_eq_true, if_false, if_true, Bool.not_true, Bool.not_false]
  refine ⟨b, d, 5, rfl, by decide, h1.bx, fun k M2 k0 k1 bx2 bt2 => ?_⟩
  obtain ⟨k, rfl⟩ := Int.eq_ofNat_of_zero_le k0
  have h2 := h1.draw bt2 bx2
  obtain ⟨g1, g2⟩ := mul_f (k := k) (by omega)
  have hm := f.ml
  refine ⟨g1, ?_⟩
  rw [g2]
  refine ⟨sz (by simp), sz (by simp), v, o, m + 1, 1 + r, k, rfl, ⟨hv, ho, by omega, by omega, by omega⟩, fun x M3 hx ax g3 => ?_⟩
  have h3 := h2.grow g3
  refine (w_setD h3.du).mpr ⟨⟨rfl, ?_⟩, ?_⟩
  · rw [kv_len, List.length_map]
    have := f.tl
    show _ < 2 ^ 24
    omega
  have nin : ∀ g : Tr → D, ((m : Int) + 1) ∉ ((ts.map fun t => (t.n, g t)).map (·.1)) := fun g z => by
    rw [List.map_map] at z
    obtain ⟨t, ht, e⟩ := List.mem_map.mp z
    have := f.good t ht
    have e' : t.n = (m : Int) + 1 := e
    omega
  rw [dput_kv (nin _)]
  have h4 : ∀ c o, c ≠ E → M3 c = some o → mset M3 E (.dct (kv (ts.map (fun t => (t.n, D.ref t.q)) ++ [((m : Int) + 1, D.ref x)]))) c = some o := fun c o hc e => (mset_ne hc).trans e
  have h5 : mset M3 E (.dct (kv (ts.map (fun t => (t.n, D.ref t.q)) ++ [((m : Int) + 1, D.ref x)]))) E = some (.dct (kv (ts.map (fun t => (t.n, D.ref t.q)) ++ [((m : Int) + 1, D.ref x)]))) := mset_same
  have h6 : ∀ c, mset M3 E (.dct (kv (ts.map (fun t => (t.n, D.ref t.q)) ++ [((m : Int) + 1, D.ref x)]))) c = none → M3 c = none := fun c e => by
    have : c ≠ E := by rintro rfl; rw [mset_same] at e; cases e
    rw [mset_ne this] at e
    exact e
  revert h4 h5 h6
  generalize mset M3 E (.dct (kv (ts.map (fun t => (t.n, D.ref t.q)) ++ [((m : Int) + 1, D.ref x)]))) = M4
  intro h4 h5 h6
  have LE : L ≠ E := ne_of h3.ln h3.du fun z => nomatch z
  have l4 := h4 L _ LE h3.ln
  have k4 := h4 A _ h3.AE h3.kp
  refine ⟨⟨L, _, rfl, l4, f_none (by decide +kernel) (by decide +kernel) (by decide +kernel) (by decide +kernel) (by decide +kernel)⟩, L, A, B, v, o, m, 1 + r, k, _, rfl, ⟨hv, ho, by omega, by omega, by omega⟩, l4, k4, ?_, fun y M5 hy ay l5 k5 g5 => ?_⟩
  · rw [kv_len, List.length_map]
    have := f.tl
    omega
  rw [dput_kv (n := ((m + 1 : Nat) : Int)) (nin _)] at k5
  refine ⟨_, _, rfl, told_int (i := ((m + 1 : Nat) : Int)) (nat_small (by omega)), ?_⟩
  simp only [wpSs, wpS, wpE, wpEs, wpT, L3.w_add, L3.w_addS, L3.w_addT, L3.w_sub, L3.w_mul, L3.w_fdiv, L3.w_mod, L3.w_pow, L3.w_iadd, L3.w_isub, L3.w_neg, L3.w_lt, L3.w_le, L3.w_gt, L3.w_ge, L3.w_eq, L3.w_ne, L3.w_in, L3.w_nin, L3.w_tb, L3.w_ti, L3.w_tt, L3.w_ix0, L3.w_ix1, L3.w_ix2, L3.w_lenT, L3.w_lenK, L3.w_int, L3.w_max, L3.w_min, L3.w_rng1, L3.w_rng2, L3.w_one, L3.w_ixK, L3.w_itS, L3.w_lenS, L3.w_many, L3.w_eqS, List.getElem?_cons_zero, List.getElem?_cons_succ, List.set_cons_zero, List.set_cons_succ, Option.some.injEq, exists_eq_left', decide_eq_true_eq, Bool.false_eq_true, if_false, if_true, Bool.not_true, Bool.not_false]
  have hl3 : ∀ c l, M3 c = some (.lst l) → M5 c = some (.lst l) := fun c l e => g5 c _ (ne_of e h3.ln fun z => nomatch z) (ne_of e h3.kp fun z => nomatch z) (h4 c _ (ne_of e h3.du fun z => nomatch z) e)
  obtain ⟨zb, hzb⟩ := h3.bx.ref
  obtain ⟨zb2, hzb2⟩ := h2.bx.ref
  have ny := h6 y hy
  refine q M5 (ts ++ [⟨((m + 1 : Nat) : Int), y, x, pk v o (m + 1) (1 + r) k⟩]) _ ⟨box_to hl3 h3.bx, l5, ?_, g5 B _ (ne_of h3.kn h3.ln fun z => nomatch z) h3.AB.symm (h4 B _ h3.BE h3.kn), ?_, hl3 C _ h3.cm, h3.bC, h3.dC, h3.AB, h3.AE, h3.BE, fun t ht => ?_⟩ ⟨fun t ht => ?_, ?_, ?_, by omega, by have := f.nl; omega, by have := f.cl; omega, f.same, f.small⟩
  · rw [k5, List.map_append]
    rfl
  · rw [g5 E _ LE.symm h3.AE.symm h5, List.map_append]
    rfl
  · rcases List.mem_append.mp ht with ht | ht
    · exact rows_to (fun c l _ _ e => hl3 c l e) h3.rows t ht
    · rw [List.mem_singleton] at ht
      subst ht
      exact ⟨ay, hl3 x _ ax, (ne_new hzb ny).symm, (ne_new h3.cm ny).symm, (ne_new hzb2 hx).symm, (ne_new h2.cm hx).symm⟩
  · rcases List.mem_append.mp ht with ht | ht
    · obtain ⟨a1, a2, a3, a4⟩ := f.good t ht
      exact ⟨a1, by omega, a3, a4⟩
    · rw [List.mem_singleton] at ht
      subst ht
      obtain ⟨a1, a2⟩ := pk_fine (v := v) (o := o) (n := m + 1) (c := 1 + r) (k := k) ⟨hv, ho, by omega, by omega, by omega⟩
      exact ⟨by show (1 : Int) ≤ ((m + 1 : Nat) : Int); omega, Int.le_refl _, a1, a2⟩
  · rw [List.map_append, List.nodup_append]
    refine ⟨f.nod, by simp, fun a ha c hc => ?_⟩
    obtain ⟨t, ht, rfl⟩ := List.mem_map.mp ha
    have := f.good t ht
    have e : c = ((m + 1 : Nat) : Int) := by simpa using hc
    rw [e]
    omega
  · rw [List.length_append]
    have := f.tl
    show ts.length + 1 ≤ _
    omega
theorem dget_kv {n : Int} {w : D} : ∀ {rs : List (Int × D)}, (rs.map (·.1)).Nodup → (n, w) ∈ rs → dget (kv rs) (.int n) = some w := fun {rs} => by
  induction rs with
  | nil => intro _ h; cases h
  | cons r rs ih =>
    intro hn h
    rw [List.map_cons, List.nodup_cons] at hn
    unfold dget kv
    rw [List.map_cons, List.find?_cons]
    show Option.map _ (match (D.int r.1).eqv (.int n) with | true => _ | false => _) = _
    rw [eqv_int]
    rcases List.mem_cons.mp h with e | h
    · subst e
      rw [decide_eq_true rfl]
      rfl
    · have : r.1 ≠ n := by
        intro e
        exact hn.1 (List.mem_map.mpr ⟨_, h, e.symm⟩)
      rw [decide_eq_false this]
      exact ih hn.2 h
theorem nod_f {g : Tr → D} (h : (ts.map (·.n)).Nodup) : ((ts.map fun t => (t.n, g t)).map (·.1)).Nodup := by
  rw [List.map_map]; exact h
theorem ok_k1 (h : Lin M b d L A B E C v o m ts ns cs) (f : Fine i m ts ns cs) (hi : i ≤ 40)
    (q : ∀ M' ts' A' E' e11 e12 e13, Lin M' b d L A' B E' C v o m ts' ns cs → Fine (i + 1) m ts' ns cs → nx [some (.kl KL), some (.ref b), some (.int (v : Nat)), some (.int (o : Nat)), some (.ref L), some (.ref E'), some (.ref C), some (.int ((m : Nat))), e8, e9, e10, e11, e12, e13, e14] M') :
    wpSs P0 b_k1 X ⟨nx, rt, bk, ct⟩ [some (.kl KL), some (.ref b), some (.int (v : Nat)), some (.int (o : Nat)), some (.ref L), some (.ref E), some (.ref C), some (.int ((m : Nat))), e8, e9, e10, e11, e12, e13, e14] M := by
  unfold b_k1
  simp only [wpSs, wpS, wpE, wpEs, wpT, L3.w_add, L3.w_addS, L3.w_addT, L3.w_sub, L3.w_mul, L3.w_fdiv, L3.w_mod, L3.w_pow, L3.w_iadd, L3.w_isub, L3.w_neg, L3.w_lt, L3.w_le, L3.w_gt, L3.w_ge, L3.w_eq, L3.w_ne, L3.w_in, L3.w_nin, L3.w_tb, L3.w_ti, L3.w_tt, L3.w_ix0, L3.w_ix1, L3.w_ix2, L3.w_lenT, L3.w_lenK, L3.w_int, L3.w_max, L3.w_min, L3.w_rng1, L3.w_rng2, L3.w_one, L3.w_ixK, L3.w_itS, L3.w_lenS, L3.w_many, L3.w_eqS, List.getElem?_cons_zero, List.getElem?_cons_succ, List.set_cons_zero, List.set_cons_succ, Option.some.injEq, exists_eq_left', decide_eq_true_eq, Bool.false_eq_true, if_false, if_true, Bool.not_true, Bool.not_false]
  refine ⟨b, d, (m : Int) + 1, rfl, by omega, h.bx, fun r M1 r0 r1 bx1 bt1 => ?_⟩
  have h1 := h.draw bt1 bx1
  simp only [wpSs, wpS, wpE, wpEs, wpT, L3.w_add, L3.w_addS, L3.w_addT, L3.w_sub, L3.w_mul, L3.w_fdiv, L3.w_mod, L3.w_pow, L3.w_iadd, L3.w_isub, L3.w_neg, L3.w_lt, L3.w_le, L3.w_gt, L3.w_ge, L3.w_eq, L3.w_ne, L3.w_in, L3.w_nin, L3.w_tb, L3.w_ti, L3.w_tt, L3.w_ix0, L3.w_ix1, L3.w_ix2, L3.w_lenT, L3.w_lenK, L3.w_int, L3.w_max, L3.w_min, L3.w_rng1, L3.w_rng2, L3.w_one, L3.w_ixK, L3.w_itS, L3.w_lenS, L3.w_many, L3.w_eqS, List.getElem?_cons_zero, List.getElem?_cons_succ, List.set_cons_zero, List.set_cons_succ, Option.some.injEq, exists_eq_left', decide_eq_true_eq, Bool.false_eq_true, if_false, if_true, Bool.not_true, Bool.not_false]
  refine ⟨⟨L, _, rfl, h1.ln, f_none (by decide +kernel) (by decide +kernel) (by decide +kernel) (by decide +kernel) (by decide +kernel)⟩, L, A, B, v, o, m, r, _, rfl, h1.ln, h1.kp, nod_f f.nod, by rw [List.length_map]; have := f.tl; omega, fun x M2 hx hM2 l2 s2 => ?_⟩
  refine ⟨rfl, fun W hW => ?_⟩
  have xL : L ≠ x := ne_new h1.ln hx
  have xE : E ≠ x := ne_new h1.du hx
  have EL : E ≠ L := ne_of h1.du h1.ln fun z => nomatch z
  have e2 : M2 E = some (.dct (kv (ts.map fun t => (t.n, D.ref t.q)))) := (s2 E EL xE).trans h1.du
  have EW : E ≠ W := ne_new e2 hW
  refine (w_itD ((mset_ne EW).trans e2)).mpr ?_
  refine forL_inv (fun j σ M' => M' W = some (.dct (kv (((ts.take j).filter fun t => decide (r < t.n)).map fun t => (t.n, D.ref t.q)))) ∧ (∀ c, c ≠ W → M' c = mset (mset M2 W (.dct [])) E (.lck (kv (ts.map fun t => (t.n, D.ref t.q)))) c) ∧ ∃ e13, σ = [some (.kl KL), some (.ref b), some (.int (v : Nat)), some (.int (o : Nat)), some (.ref L), some (.ref E), some (.ref C), some (.int ((m : Nat))), e8, e9, e10, some (.int r), some (.ref W), e13, e14]) ⟨(mset_ne EW.symm).trans mset_same, fun _ _ => rfl, _, rfl⟩ ?_ ?_
  · rintro j y σ M' nx2 hy ⟨hMW, hMc, e13, rfl⟩ hnx
    have hE : M' E = some (.lck (kv (ts.map fun t => (t.n, D.ref t.q)))) := (hMc E EW).trans mset_same
    refine ⟨hE, ?_⟩
    obtain ⟨t, ht, rfl⟩ : ∃ t, ts[j]? = some t ∧ y = .int t.n := by
      unfold kv at hy
      rw [List.getElem?_map, List.getElem?_map, List.getElem?_map] at hy
      cases e : ts[j]? with
      | none => rw [e] at hy; cases hy
      | some t => rw [e] at hy; cases hy; exact ⟨t, rfl, rfl⟩
    have et : ts.take (j + 1) = ts.take j ++ [t] := by rw [List.take_add_one, ht]; rfl
    have hlt := (List.getElem?_eq_some_iff.mp ht).1
    unfold b_law_1
    simp only [wpSs, wpS, wpE, wpEs, wpT, L3.w_add, L3.w_addS, L3.w_addT, L3.w_sub, L3.w_mul, L3.w_fdiv, L3.w_mod, L3.w_pow, L3.w_iadd, L3.w_isub, L3.w_neg, L3.w_lt, L3.w_le, L3.w_gt, L3.w_ge, L3.w_eq, L3.w_ne, L3.w_in, L3.w_nin, L3.w_tb, L3.w_ti, L3.w_tt, L3.w_ix0, L3.w_ix1, L3.w_ix2, L3.w_lenT, L3.w_lenK, L3.w_int, L3.w_max, L3.w_min, L3.w_rng1, L3.w_rng2, L3.w_one, L3.w_ixK, L3.w_itS, L3.w_lenS, L3.w_many, L3.w_eqS, List.getElem?_cons_zero, List.getElem?_cons_succ, List.set_cons_zero, List.set_cons_succ, Option.some.injEq, exists_eq_left', decide_eq_true_eq, Bool.false_eq_true, if_false, if_true, Bool.not_true, Bool.not_false]
    split
    · rename_i hr
      refine (w_ixLk hE).mpr ⟨rfl, .ref t.q, dget_kv (nod_f f.nod) (List.mem_map.mpr ⟨t, List.mem_of_getElem? ht, rfl⟩), (w_setD hMW).mpr ⟨⟨rfl, ?_⟩, ?_⟩⟩
      · rw [kv_len, List.length_map]
        have a1 := List.length_filter_le (fun t : Tr => decide (r < t.n)) (ts.take j)
        have a2 : (ts.take j).length ≤ ts.length := by rw [List.length_take]; omega
        have := f.tl
        show _ < 2 ^ 24
        omega
      · refine hnx _ _ ⟨?_, fun c hc => (mset_ne hc).trans (hMc c hc), _, rfl⟩
        rw [mset_same, dput_kv, et, List.filter_append, List.map_append, List.filter_cons, if_pos (by simpa using hr)]
        · rfl
        · intro hm
          rw [List.map_map] at hm
          obtain ⟨u, hu, e⟩ := List.mem_map.mp hm
          have hu := (List.mem_filter.mp hu).1
          have e' : u.n = t.n := e
          obtain ⟨j2, hj2⟩ := List.getElem?_of_mem hu
          rw [List.getElem?_take] at hj2
          split at hj2
          · rename_i hlt2
            have hn := f.nod
            have := (List.getElem?_inj (l := ts.map (·.n)) (i := j2) (j := j) (by rw [List.length_map]; have := (List.getElem?_eq_some_iff.mp hj2).1; omega) hn).mp (by rw [List.getElem?_map, List.getElem?_map, hj2, ht]; show some u.n = some t.n; rw [e'])
            omega
          · cases hj2
    · rename_i hr
      refine hnx _ _ ⟨?_, hMc, _, rfl⟩
      rw [hMW, et, List.filter_append, List.filter_cons, if_neg (by simpa using hr)]
      simp
  · rintro σ M' ⟨hMW, hMc, e13, rfl⟩
    have hE : M' E = some (.lck (kv (ts.map fun t => (t.n, D.ref t.q)))) := (hMc E EW).trans mset_same
    refine ⟨hE, ?_⟩
    have eu : unlk E M' = mset M' E (.dct (kv (ts.map fun t => (t.n, D.ref t.q)))) := by unfold unlk; rw [hE]
    simp only [wpSs, wpS, wpE, wpEs, wpT, L3.w_add, L3.w_addS, L3.w_addT, L3.w_sub, L3.w_mul, L3.w_fdiv, L3.w_mod, L3.w_pow, L3.w_iadd, L3.w_isub, L3.w_neg, L3.w_lt, L3.w_le, L3.w_gt, L3.w_ge, L3.w_eq, L3.w_ne, L3.w_in, L3.w_nin, L3.w_tb, L3.w_ti, L3.w_tt, L3.w_ix0, L3.w_ix1, L3.w_ix2, L3.w_lenT, L3.w_lenK, L3.w_int, L3.w_max, L3.w_min, L3.w_rng1, L3.w_rng2, L3.w_one, L3.w_ixK, L3.w_itS, L3.w_lenS, L3.w_many, L3.w_eqS, List.getElem?_cons_zero, List.getElem?_cons_succ, List.set_cons_zero, List.set_cons_succ, Option.some.injEq, exists_eq_left', decide_eq_true_eq, Bool.false_eq_true, if_false, if_true, Bool.not_true, Bool.not_false]
    rw [eu]
    have hc6 : ∀ c o, c ≠ W → c ≠ E → M2 c = some o → mset M' E (.dct (kv (ts.map fun t => (t.n, D.ref t.q)))) c = some o := fun c o h1 h2 e => by
      rw [mset_ne h2, hMc c h1, mset_ne h2, mset_ne h1, e]
    have hW6 : mset M' E (.dct (kv (ts.map fun t => (t.n, D.ref t.q)))) W = some (.dct (kv ((ts.filter fun t => decide (r < t.n)).map fun t => (t.n, D.ref t.q)))) := by
      rw [mset_ne EW.symm, hMW]
      unfold kv
      rw [List.length_map, List.length_map, List.length_map, List.take_length]
    have xW : x ≠ W := ne_new hM2 hW
    have BL : B ≠ L := ne_of h1.kn h1.ln fun z => nomatch z
    have B2 : M2 B = some (.dct (known ns)) := (s2 B BL (ne_new h1.kn hx)).trans h1.kn
    have hl : ∀ c l, M1 c = some (.lst l) → mset M' E (.dct (kv (ts.map fun t => (t.n, D.ref t.q)))) c = some (.lst l) := fun c l e => by
      have e2 : M2 c = some (.lst l) := (s2 c (ne_of e h1.ln fun z => nomatch z) (ne_new e hx)).trans e
      exact hc6 c _ (ne_new e2 hW) (ne_of e h1.du fun z => nomatch z) e2
    refine q _ (ts.filter fun t => decide (r < t.n)) x W _ _ _ ⟨box_to hl h1.bx, hc6 L _ (ne_new l2 hW) EL.symm l2, ?_, hc6 B _ (ne_new B2 hW) h1.BE B2, hW6, hl C _ h1.cm, h1.bC, h1.dC, (ne_new h1.kn hx).symm, xW, ne_new B2 hW, fun t ht => rows_to (fun c l _ _ e => hl c l e) h1.rows t (List.mem_filter.mp ht).1⟩
      ⟨fun t ht => f.good t (List.mem_filter.mp ht).1, List.Nodup.sublist (List.Sublist.map _ List.filter_sublist) f.nod, by have := f.tl; have := List.length_filter_le (fun t : Tr => decide (r < t.n)) ts; omega, by have := f.ml; omega, by have := f.nl; omega, by have := f.cl; omega, f.same, f.small⟩
    refine hc6 x _ xW xE.symm (hM2.trans ?_)
    rw [List.filter_map]
    rfl
theorem any_nums {n : Int} : ((nums cs).map D.int).any (fun z => z.eqv (.int n)) = decide (n ∈ nums cs) := by
  rw [List.any_map, Bool.eq_iff_iff, List.any_eq_true, decide_eq_true_eq]
  constructor
  · rintro ⟨m, hm, h⟩
    have h' : (D.int m).eqv (.int n) = true := h
    rw [eqv_int] at h'
    rw [← of_decide_eq_true h']
    exact hm
  · intro h
    refine ⟨n, h, ?_⟩
    show (D.int n).eqv (.int n) = true
    rw [eqv_int]
    exact decide_eq_true rfl
theorem mem_nums {n : Nat} : ((n : Int) ∈ nums cs) ↔ n ∈ cs := by
  unfold nums
  rw [List.mem_map]
  constructor
  · rintro ⟨m, hm, e⟩
    have : m = n := by omega
    rw [← this]; exact hm
  · intro h
    exact ⟨n, h, rfl⟩
theorem flat_ints {xs : List Int} : ∀ d ∈ xs.map D.int, d.flat = true := fun d hd => by
  obtain ⟨i, _, rfl⟩ := List.mem_map.mp hd
  rfl
theorem nums_app {n : Nat} : (nums cs).map D.int ++ [D.int (n : Nat)] = (nums (cs ++ [n])).map D.int := by simp [nums]
theorem nums_len : ((nums cs).map D.int).length = cs.length := by simp [nums]
theorem ok_k2 (h : Lin M b d L A B E C v o m ts ns cs) (f : Fine i m ts ns cs) (hi : i ≤ 40)
    (q : ∀ M' ns' cs' e13, Lin M' b d L A B E C v o m ts ns' cs' → Fine (i + 1) m ts ns' cs' → nx [some (.kl KL), some (.ref b), some (.int (v : Nat)), some (.int (o : Nat)), some (.ref L), some (.ref E), some (.ref C), some (.int ((m : Nat))), e8, e9, e10, e11, e12, e13, e14] M') :
    wpSs P0 b_k2 X ⟨nx, rt, bk, ct⟩ [some (.kl KL), some (.ref b), some (.int (v : Nat)), some (.int (o : Nat)), some (.ref L), some (.ref E), some (.ref C), some (.int ((m : Nat))), e8, e9, e10, e11, e12, e13, e14] M := by
  unfold b_k2
  simp only [wpSs, wpS, wpE, wpEs, wpT, L3.w_add, L3.w_addS, L3.w_addT, L3.w_sub, L3.w_mul, L3.w_fdiv, L3.w_mod, L3.w_pow, L3.w_iadd, L3.w_isub, L3.w_neg, L3.w_lt, L3.w_le, L3.w_gt, L3.w_ge, L3.w_eq, L3.w_ne, L3.w_in, L3.w_nin, L3.w_tb, L3.w_ti, L3.w_tt, L3.w_ix0, L3.w_ix1, L3.w_ix2, L3.w_lenT, L3.w_lenK, L3.w_int, L3.w_max, L3.w_min, L3.w_rng1, L3.w_rng2, L3.w_one, L3.w_ixK, L3.w_itS, L3.w_lenS, L3.w_many, L3.w_eqS, List.getElem?_cons_zero, List.getElem?_cons_succ, List.set_cons_zero, List.set_cons_succ, Option.some.injEq, exists_eq_left', decide_eq_true_eq, Bool.false_eq_true, if_false, if_true, Bool.not_true, Bool.not_false]
  refine ⟨b, d, 9, rfl, by decide, h.bx, fun r M1 r0 r1 bx1 bt1 => ?_⟩
  obtain ⟨r, rfl⟩ := Int.eq_ofNat_of_zero_le r0
  have h1 := h.draw bt1 bx1
  simp only [wpSs, wpS, wpE, wpEs, wpT, L3.w_add, L3.w_addS, L3.w_addT, L3.w_sub, L3.w_mul, L3.w_fdiv, L3.w_mod, L3.w_pow, L3.w_iadd, L3.w_isub, L3.w_neg, L3.w_lt, L3.w_le, L3.w_gt, L3.w_ge, L3.w_eq, L3.w_ne, L3.w_in, L3.w_nin, L3.w_tb, L3.w_ti, L3.w_tt, L3.w_ix0, L3.w_ix1, L3.w_ix2, L3.w_lenT, L3.w_lenK, L3.w_int, L3.w_max, L3.w_min, L3.w_rng1, L3.w_rng2, L3.w_one, L3.w_ixK, L3.w_itS, L3.w_lenS, L3.w_many, L3.w_eqS, List.getElem?_cons_zero, List.getElem?_cons_succ, List.set_cons_zero, List.set_cons_succ, Option.some.injEq, exists_eq_left', decide_eq_true_eq, Bool.false_eq_true, if_false, if_true, Bool.not_true, Bool.not_false]
  have ec : (1 : Int) + (r : Int) = ((1 + r : Nat) : Int) := by omega
  rw [ec]
  generalize hz : 1 + r = n at *
  have fin : ∀ (M2 : Mp) (ns' : List Nat), Lin M2 b d L A B E C v o m ts ns' cs → (∀ z, z ∈ ns' ↔ z ∈ cs ++ [n]) → ns'.length ≤ i + 1 →
      ∀ nx' : Lo → Mp → Prop, (∀ M' e13, Lin M' b d L A B E C v o m ts ns' (cs ++ [n]) → Fine (i + 1) m ts ns' (cs ++ [n]) → nx' [some (.kl KL), some (.ref b), some (.int (v : Nat)), some (.int (o : Nat)), some (.ref L), some (.ref E), some (.ref C), some (.int ((m : Nat))), e8, e9, e10, e11, e12, e13, e14] M') → cs.length < PySem.sizeLine ∧ nx' [some (.kl KL), some (.ref b), some (.int (v : Nat)), some (.int (o : Nat)), some (.ref L), some (.ref E), some (.ref C), some (.int ((m : Nat))), e8, e9, e10, e11, e12, some (.int (n : Nat)), e14] (mset M2 C (.lst ((nums (cs ++ [n])).map D.int))) := fun M2 ns' h2 hs hn nx' q' => by
    have := f.cl
    refine ⟨by show _ < 2 ^ 24; omega, q' _ _ ⟨?_, ?_, ?_, ?_, ?_, mset_same, h2.bC, h2.dC, h2.AB, h2.AE, h2.BE, rows_to (fun c l _ hc e => (mset_ne hc).trans e) h2.rows⟩ ⟨f.good, f.nod, by have := f.tl; omega, by have := f.ml; omega, hn, by rw [List.length_append]; show cs.length + 1 ≤ _; omega, hs, fun z hz => ?_⟩⟩
    · obtain ⟨xs, at_, g1, g2, g3⟩ := h2.bx
      exact ⟨xs, at_, (mset_ne h2.bC).trans g1, (mset_ne h2.dC).trans g2, g3⟩
    · exact (mset_ne (ne_of h2.ln h2.cm fun z => nomatch z)).trans h2.ln
    · exact (mset_ne (ne_of h2.kp h2.cm fun z => nomatch z)).trans h2.kp
    · exact (mset_ne (ne_of h2.kn h2.cm fun z => nomatch z)).trans h2.kn
    · exact (mset_ne (ne_of h2.du h2.cm fun z => nomatch z)).trans h2.du
    · rcases List.mem_append.mp hz with hz | hz
      · exact f.small z hz
      · rw [List.mem_singleton] at hz
        omega
  refine ⟨⟨L, _, rfl, h1.ln, f_none (by decide +kernel) (by decide +kernel) (by decide +kernel) (by decide +kernel) (by decide +kernel)⟩, L, A, B, v, o, m, n, ns, rfl, h1.ln, h1.kn, by have := f.nl; omega, fun hm => ?_, fun hm => ?_⟩
  · refine (w_inL h1.cm).mpr ⟨⟨rfl, flat_ints⟩, ?_⟩
    have hc := (f.same n).mp hm
    rw [any_nums, decide_eq_true (mem_nums.mpr hc)]
    refine ⟨_, _, rfl, told_bl, ?_⟩
    simp only [wpSs, wpS, wpE, wpEs, wpT, L3.w_add, L3.w_addS, L3.w_addT, L3.w_sub, L3.w_mul, L3.w_fdiv, L3.w_mod, L3.w_pow, L3.w_iadd, L3.w_isub, L3.w_neg, L3.w_lt, L3.w_le, L3.w_gt, L3.w_ge, L3.w_eq, L3.w_ne, L3.w_in, L3.w_nin, L3.w_tb, L3.w_ti, L3.w_tt, L3.w_ix0, L3.w_ix1, L3.w_ix2, L3.w_lenT, L3.w_lenK, L3.w_int, L3.w_max, L3.w_min, L3.w_rng1, L3.w_rng2, L3.w_one, L3.w_ixK, L3.w_itS, L3.w_lenS, L3.w_many, L3.w_eqS, List.getElem?_cons_zero, List.getElem?_cons_succ, List.set_cons_zero, List.set_cons_succ, Option.some.injEq, exists_eq_left', decide_eq_true_eq, Bool.false_eq_true, if_false, if_true, Bool.not_true, Bool.not_false]
    refine ⟨by rw [w_rcvL h1.cm]; rfl, trivial, (w_app h1.cm).mpr ?_⟩
    rw [nums_len, nums_app]
    exact fin M1 ns h1 (fun z => by rw [List.mem_append, List.mem_singleton, f.same]; exact ⟨.inl, fun y => y.elim id fun e => e ▸ hc⟩) (by have := f.nl; omega) _ fun M' e13 a b => q M' ns _ e13 a b
  · have h2 : Lin (mset M1 B (.dct (known (ns ++ [n])))) b d L A B E C v o m ts (ns ++ [n]) cs := by
      have hl : ∀ c l, M1 c = some (.lst l) → mset M1 B (.dct (known (ns ++ [n]))) c = some (.lst l) := fun c l e => (mset_ne (ne_of e h1.kn fun z => nomatch z)).trans e
      exact ⟨box_to hl h1.bx, (mset_ne (ne_of h1.ln h1.kn fun z => nomatch z)).trans h1.ln, (mset_ne h1.AB).trans h1.kp, mset_same, (mset_ne h1.BE.symm).trans h1.du, hl _ _ h1.cm, h1.bC, h1.dC, h1.AB, h1.AE, h1.BE, rows_to (fun c l _ _ e => hl c l e) h1.rows⟩
    refine (w_inL h2.cm).mpr ⟨⟨rfl, flat_ints⟩, ?_⟩
    have hc : n ∉ cs := fun z => hm ((f.same n).mpr z)
    rw [any_nums, decide_eq_false (fun z => hc (mem_nums.mp z))]
    refine ⟨_, _, rfl, told_bl, ?_⟩
    simp only [wpSs, wpS, wpE, wpEs, wpT, L3.w_add, L3.w_addS, L3.w_addT, L3.w_sub, L3.w_mul, L3.w_fdiv, L3.w_mod, L3.w_pow, L3.w_iadd, L3.w_isub, L3.w_neg, L3.w_lt, L3.w_le, L3.w_gt, L3.w_ge, L3.w_eq, L3.w_ne, L3.w_in, L3.w_nin, L3.w_tb, L3.w_ti, L3.w_tt, L3.w_ix0, L3.w_ix1, L3.w_ix2, L3.w_lenT, L3.w_lenK, L3.w_int, L3.w_max, L3.w_min, L3.w_rng1, L3.w_rng2, L3.w_one, L3.w_ixK, L3.w_itS, L3.w_lenS, L3.w_many, L3.w_eqS, List.getElem?_cons_zero, List.getElem?_cons_succ, List.set_cons_zero, List.set_cons_succ, Option.some.injEq, exists_eq_left', decide_eq_true_eq, Bool.false_eq_true, if_false, if_true, Bool.not_true, Bool.not_false]
    refine ⟨by rw [w_rcvL h2.cm]; rfl, trivial, (w_app h2.cm).mpr ?_⟩
    rw [nums_len, nums_app]
    exact fin _ _ h2 (fun z => by rw [List.mem_append, List.mem_append, f.same]) (by rw [List.length_append]; have := f.nl; show ns.length + 1 ≤ _; omega) _ fun M' e13 a b => q M' _ _ e13 a b
theorem ok_tail (h : Lin M b d L A B E C v o m ts ns cs) (f : Fine i m ts ns cs) (hi : i ≤ 40)
    (q : ∀ e13 e14, nx [some (.kl KL), some (.ref b), some (.int (v : Nat)), some (.int (o : Nat)), some (.ref L), some (.ref E), some (.ref C), some (.int ((m : Nat))), e8, e9, e10, e11, e12, e13, e14] M) :
    wpSs P0 b_tail X ⟨nx, rt, bk, ct⟩ [some (.kl KL), some (.ref b), some (.int (v : Nat)), some (.int (o : Nat)), some (.ref L), some (.ref E), some (.ref C), some (.int ((m : Nat))), e8, e9, e10, e11, e12, e13, e14] M := by
  unfold b_tail
  simp only [wpSs, wpS, wpE, wpEs, wpT, L3.w_add, L3.w_addS, L3.w_addT, L3.w_sub, L3.w_mul, L3.w_fdiv, L3.w_mod, L3.w_pow, L3.w_iadd, L3.w_isub, L3.w_neg, L3.w_lt, L3.w_le, L3.w_gt, L3.w_ge, L3.w_eq, L3.w_ne, L3.w_in, L3.w_nin, L3.w_tb, L3.w_ti, L3.w_tt, L3.w_ix0, L3.w_ix1, L3.w_ix2, L3.w_lenT, L3.w_lenK, L3.w_int, L3.w_max, L3.w_min, L3.w_rng1, L3.w_rng2, L3.w_one, L3.w_ixK, L3.w_itS, L3.w_lenS, L3.w_many, L3.w_eqS, List.getElem?_cons_zero, List.getElem?_cons_succ, List.set_cons_zero, List.set_cons_succ, Option.some.injEq, exists_eq_left', decide_eq_true_eq, Bool.false_eq_true, if_false, if_true, Bool.not_true, Bool.not_false]
  refine ⟨⟨sm (by decide) (by decide), sm (by decide) (by decide)⟩, forL_inv (fun j σ M' => M' = M ∧ ∃ (c : Nat) (e13 : Option D), σ = [some (.kl KL), some (.ref b), some (.int (v : Nat)), some (.int (o : Nat)), some (.ref L), some (.ref E), some (.ref C), some (.int ((m : Nat))), e8, e9, e10, e11, e12, e13, some (.int (c : Nat))] ∧ c ≤ j ∧ (∀ z, 1 ≤ z → z ≤ c → z ∈ cs) ∧ (c < j → c + 1 ∉ cs)) ⟨rfl, 0, _, rfl, Nat.le_refl _, fun z h1 h2 => by omega, fun z => by omega⟩ ?_ ?_⟩
  · rintro j x σ M' nx2 hx ⟨rfl, c, e13, rfl, hc1, hc2, hc3⟩ hnx
    obtain ⟨hj, rfl⟩ := dRange_get' hx
    refine ⟨trivial, ?_⟩
    unfold b_law_0
    simp only [wpSs, wpS, wpE, wpEs, wpT, L3.w_add, L3.w_addS, L3.w_addT, L3.w_sub, L3.w_mul, L3.w_fdiv, L3.w_mod, L3.w_pow, L3.w_iadd, L3.w_isub, L3.w_neg, L3.w_lt, L3.w_le, L3.w_gt, L3.w_ge, L3.w_eq, L3.w_ne, L3.w_in, L3.w_nin, L3.w_tb, L3.w_ti, L3.w_tt, L3.w_ix0, L3.w_ix1, L3.w_ix2, L3.w_lenT, L3.w_lenK, L3.w_int, L3.w_max, L3.w_min, L3.w_rng1, L3.w_rng2, L3.w_one, L3.w_ixK, L3.w_itS, L3.w_lenS, L3.w_many, L3.w_eqS, List.getElem?_cons_zero, List.getElem?_cons_succ, List.set_cons_zero, List.set_cons_succ, Option.some.injEq, exists_eq_left', decide_eq_true_eq, Bool.false_eq_true, if_false, if_true, Bool.not_true, Bool.not_false]
    split
    · rename_i e
      have e : c = j := by omega
      subst e
      refine (w_inL h.cm).mpr ⟨⟨rfl, flat_ints⟩, ?_⟩
      rw [any_nums, show (1 : Int) + (c : Int) = ((c + 1 : Nat) : Int) by omega]
      by_cases hm : c + 1 ∈ cs
      · rw [decide_eq_true (mem_nums.mpr hm)]
        simp only [wpSs, wpS, wpE, wpEs, wpT, L3.w_add, L3.w_addS, L3.w_addT, L3.w_sub, L3.w_mul, L3.w_fdiv, L3.w_mod, L3.w_pow, L3.w_iadd, L3.w_isub, L3.w_neg, L3.w_lt, L3.w_le, L3.w_gt, L3.w_ge, L3.w_eq, L3.w_ne, L3.w_in, L3.w_nin, L3.w_tb, L3.w_ti, L3.w_tt, L3.w_ix0, L3.w_ix1, L3.w_ix2, L3.w_lenT, L3.w_lenK, L3.w_int, L3.w_max, L3.w_min, L3.w_rng1, L3.w_rng2, L3.w_one, L3.w_ixK, L3.w_itS, L3.w_lenS, L3.w_many, L3.w_eqS, List.getElem?_cons_zero, List.getElem?_cons_succ, List.set_cons_zero, List.set_cons_succ, Option.some.injEq, exists_eq_left', decide_eq_true_eq, Bool.false_eq_true, if_false, if_true, Bool.not_true, Bool.not_false]
        refine hnx _ _ ⟨rfl, c + 1, _, rfl, Nat.le_refl _, fun z h1 h2 => ?_, fun z => by omega⟩
        by_cases e : z = c + 1
        · rw [e]; exact hm
        · exact hc2 z h1 (by omega)
      · rw [decide_eq_false (fun z => hm (mem_nums.mp z))]
        simp only [wpSs, wpS, wpE, wpEs, wpT, L3.w_add, L3.w_addS, L3.w_addT, L3.w_sub, L3.w_mul, L3.w_fdiv, L3.w_mod, L3.w_pow, L3.w_iadd, L3.w_isub, L3.w_neg, L3.w_lt, L3.w_le, L3.w_gt, L3.w_ge, L3.w_eq, L3.w_ne, L3.w_in, L3.w_nin, L3.w_tb, L3.w_ti, L3.w_tt, L3.w_ix0, L3.w_ix1, L3.w_ix2, L3.w_lenT, L3.w_lenK, L3.w_int, L3.w_max, L3.w_min, L3.w_rng1, L3.w_rng2, L3.w_one, L3.w_ixK, L3.w_itS, L3.w_lenS, L3.w_many, L3.w_eqS, List.getElem?_cons_zero, List.getElem?_cons_succ, List.set_cons_zero, List.set_cons_succ, Option.some.injEq, exists_eq_left', decide_eq_true_eq, Bool.false_eq_true, if_false, if_true, Bool.not_true, Bool.not_false]
        exact hnx _ _ ⟨rfl, c, _, rfl, by omega, hc2, fun _ => hm⟩
    · rename_i e
      have e : c ≠ j := fun z => e (by omega)
      exact hnx _ _ ⟨rfl, c, _, rfl, by omega, hc2, fun _ => hc3 (by omega)⟩
  · rintro σ M' ⟨rfl, c, e13, rfl, hc1, hc2, hc3⟩
    refine ⟨trivial, ?_⟩
    rw [dRange_len] at hc1 hc3
    have hc1 : c ≤ 10 := hc1
    have c9 : c ≤ 9 := by
      by_cases e : c = 10
      · have := f.small 10 (hc2 10 (by omega) (by omega))
        omega
      · omega
    have cx : c + 1 ∉ cs := hc3 (by show c < 10; omega)
    simp only [wpSs, wpS, wpE, wpEs, wpT, L3.w_add, L3.w_addS, L3.w_addT, L3.w_sub, L3.w_mul, L3.w_fdiv, L3.w_mod, L3.w_pow, L3.w_iadd, L3.w_isub, L3.w_neg, L3.w_lt, L3.w_le, L3.w_gt, L3.w_ge, L3.w_eq, L3.w_ne, L3.w_in, L3.w_nin, L3.w_tb, L3.w_ti, L3.w_tt, L3.w_ix0, L3.w_ix1, L3.w_ix2, L3.w_lenT, L3.w_lenK, L3.w_int, L3.w_max, L3.w_min, L3.w_rng1, L3.w_rng2, L3.w_one, L3.w_ixK, L3.w_itS, L3.w_lenS, L3.w_many, L3.w_eqS, List.getElem?_cons_zero, List.getElem?_cons_succ, List.set_cons_zero, List.set_cons_succ, Option.some.injEq, exists_eq_left', decide_eq_true_eq, Bool.false_eq_true, if_false, if_true, Bool.not_true, Bool.not_false]
    refine ⟨⟨L, _, rfl, h.ln, f_none (by decide +kernel) (by decide +kernel) (by decide +kernel) (by decide +kernel) (by decide +kernel)⟩, L, A, B, v, o, m, ns, rfl, h.ln, h.kn, fun n hn => by have := f.small n ((f.same n).mp hn); omega, fun c' hc' => ?_⟩
    have ecc : c' = c := by
      obtain ⟨a1, a2⟩ := hc'
      rcases Nat.lt_trichotomy c' c with z | z | z
      · exact absurd ((f.same _).mpr (hc2 (c' + 1) (by omega) (by omega))) a2
      · exact z
      · exact absurd ((f.same _).mp (a1 (c + 1) (by omega) (by omega))) cx
    subst ecc
    refine ⟨_, _, rfl, told_int (nat_small (by omega)), ?_⟩
    simp only [wpSs, wpS, wpE, wpEs, wpT, L3.w_add, L3.w_addS, L3.w_addT, L3.w_sub, L3.w_mul, L3.w_fdiv, L3.w_mod, L3.w_pow, L3.w_iadd, L3.w_isub, L3.w_neg, L3.w_lt, L3.w_le, L3.w_gt, L3.w_ge, L3.w_eq, L3.w_ne, L3.w_in, L3.w_nin, L3.w_tb, L3.w_ti, L3.w_tt, L3.w_ix0, L3.w_ix1, L3.w_ix2, L3.w_lenT, L3.w_lenK, L3.w_int, L3.w_max, L3.w_min, L3.w_rng1, L3.w_rng2, L3.w_one, L3.w_ixK, L3.w_itS, L3.w_lenS, L3.w_many, L3.w_eqS, List.getElem?_cons_zero, List.getElem?_cons_succ, List.set_cons_zero, List.set_cons_succ, Option.some.injEq, exists_eq_left', decide_eq_true_eq, Bool.false_eq_true, if_false, if_true, Bool.not_true, Bool.not_false]
    refine (w_fld h.ln).mpr ⟨fl_kept, _, f_kept, ?_⟩
    have tl := f.tl
    refine ⟨_, _, rfl, told_kv (ts := ts) (fun t ht => ?_) (by omega) h.kp h.du, ?_⟩
    · obtain ⟨a1, a2, _⟩ := h.rows t ht
      obtain ⟨a3, a4, a5, a6⟩ := f.good t ht
      have := f.ml
      exact ⟨a1, a2, by have := nat_small (i := t.n.natAbs) (by omega); rwa [Int.natAbs_natCast] at this, a5, a6⟩
    simp only [wpSs, wpS, wpE, wpEs, wpT, L3.w_add, L3.w_addS, L3.w_addT, L3.w_sub, L3.w_mul, L3.w_fdiv, L3.w_mod, L3.w_pow, L3.w_iadd, L3.w_isub, L3.w_neg, L3.w_lt, L3.w_le, L3.w_gt, L3.w_ge, L3.w_eq, L3.w_ne, L3.w_in, L3.w_nin, L3.w_tb, L3.w_ti, L3.w_tt, L3.w_ix0, L3.w_ix1, L3.w_ix2, L3.w_lenT, L3.w_lenK, L3.w_int, L3.w_max, L3.w_min, L3.w_rng1, L3.w_rng2, L3.w_one, L3.w_ixK, L3.w_itS, L3.w_lenS, L3.w_many, L3.w_eqS, List.getElem?_cons_zero, List.getElem?_cons_succ, List.set_cons_zero, List.set_cons_succ, Option.some.injEq, exists_eq_left', decide_eq_true_eq, Bool.false_eq_true, if_false, if_true, Bool.not_true, Bool.not_false]
    refine (w_fld h.ln).mpr ⟨fl_sent, _, f_sent, ?_⟩
    have := f.ml
    refine ⟨_, _, rfl, told_int (nat_small (by omega)), ?_⟩
    simp only [wpSs, wpS, wpE, wpEs, wpT, L3.w_add, L3.w_addS, L3.w_addT, L3.w_sub, L3.w_mul, L3.w_fdiv, L3.w_mod, L3.w_pow, L3.w_iadd, L3.w_isub, L3.w_neg, L3.w_lt, L3.w_le, L3.w_gt, L3.w_ge, L3.w_eq, L3.w_ne, L3.w_in, L3.w_nin, L3.w_tb, L3.w_ti, L3.w_tt, L3.w_ix0, L3.w_ix1, L3.w_ix2, L3.w_lenT, L3.w_lenK, L3.w_int, L3.w_max, L3.w_min, L3.w_rng1, L3.w_rng2, L3.w_one, L3.w_ixK, L3.w_itS, L3.w_lenS, L3.w_many, L3.w_eqS, List.getElem?_cons_zero, List.getElem?_cons_succ, List.set_cons_zero, List.set_cons_succ, Option.some.injEq, exists_eq_left', decide_eq_true_eq, Bool.false_eq_true, if_false, if_true, Bool.not_true, Bool.not_false]
    exact q _ _
theorem ok_law2 (h : Lin M b d L A B E C v o m ts ns cs) (f : Fine i m ts ns cs) (hi : i < 40) (hv : v ≤ 100) (ho : o ≤ 100)
    (q : ∀ M' m' A' E' ts' ns' cs' e9 e10 e11 e12 e13 e14, Lin M' b d L A' B E' C v o m' ts' ns' cs' → Fine (i + 1) m' ts' ns' cs' → nx [some (.kl KL), some (.ref b), some (.int (v : Nat)), some (.int (o : Nat)), some (.ref L), some (.ref E'), some (.ref C), some (.int ((m' : Nat))), e8, e9, e10, e11, e12, e13, e14] M') :
    wpSs P0 b_law_2 X ⟨nx, rt, bk, ct⟩ [some (.kl KL), some (.ref b), some (.int (v : Nat)), some (.int (o : Nat)), some (.ref L), some (.ref E), some (.ref C), some (.int ((m : Nat))), e8, e9, e10, e11, e12, e13, e14] M := by
  rw [b_law_2_eq]
  simp only [wpSs, wpS, wpE, wpEs, wpT, L3.w_add, L3.w_addS, L3.w_addT, L3.w_sub, L3.w_mul, L3.w_fdiv, L3.w_mod, L3.w_pow, L3.w_iadd, L3.w_isub, L3.w_neg, L3.w_lt, L3.w_le, L3.w_gt, L3.w_ge, L3.w_eq, L3.w_ne, L3.w_in, L3.w_nin, L3.w_tb, L3.w_ti, L3.w_tt, L3.w_ix0, L3.w_ix1, L3.w_ix2, L3.w_lenT, L3.w_lenK, L3.w_int, L3.w_max, L3.w_min, L3.w_rng1, L3.w_rng2, L3.w_one, L3.w_ixK, L3.w_itS, L3.w_lenS, L3.w_many, L3.w_eqS, List.getElem?_cons_zero, List.getElem?_cons_succ, List.set_cons_zero, List.set_cons_succ, Option.some.injEq, exists_eq_left', decide_eq_true_eq, Bool.false_eq_true, if_false, if_true, Bool.not_true, Bool.not_false]
  refine ⟨b, d, 4, rfl, by decide, h.bx, fun r M1 r0 r1 bx1 bt1 => ?_⟩
  have h1 := h.draw bt1 bx1
  simp only [wpSs, wpS, wpE, wpEs, wpT, L3.w_add, L3.w_addS, L3.w_addT, L3.w_sub, L3.w_mul, L3.w_fdiv, L3.w_mod, L3.w_pow, L3.w_iadd, L3.w_isub, L3.w_neg, L3.w_lt, L3.w_le, L3.w_gt, L3.w_ge, L3.w_eq, L3.w_ne, L3.w_in, L3.w_nin, L3.w_tb, L3.w_ti, L3.w_tt, L3.w_ix0, L3.w_ix1, L3.w_ix2, L3.w_lenT, L3.w_lenK, L3.w_int, L3.w_max, L3.w_min, L3.w_rng1, L3.w_rng2, L3.w_one, L3.w_ixK, L3.w_itS, L3.w_lenS, L3.w_many, L3.w_eqS, List.getElem?_cons_zero, List.getElem?_cons_succ, List.set_cons_zero, List.set_cons_succ, Option.some.injEq, exists_eq_left', decide_eq_true_eq, Bool.false_eq_true, if_false, if_true, Bool.not_true, Bool.not_false]
  split
  · exact ok_k0 h1 f (by omega) hv ho fun M' ts' e hh ff => ok_tail hh ff (by omega) fun e13 e14 => q _ _ _ _ _ _ _ _ _ _ _ _ _ hh ff
  · split
    · exact ok_k1 h1 f (by omega) fun M' ts' A' E' e11 e12 e13 hh ff => ok_tail hh ff (by omega) fun e13 e14 => q _ _ _ _ _ _ _ _ _ _ _ _ _ hh ff
    · exact ok_k2 h1 f (by omega) fun M' ns' cs' e13 hh ff => ok_tail hh ff (by omega) fun e13 e14 => q _ _ _ _ _ _ _ _ _ _ _ _ _ hh ff
end
theorem ok_law : Keeps P0 sp14 15 b_law := by
  rintro ds M Q X ⟨ns, rfl, rfl, q⟩
  show wpSs P0 b_law _ _ [some (.kl (ns.map .int)), none, none, none, none, none, none, none, none, none, none, none, none, none, none] _
  unfold b_law
  simp only [wpSs, wpS, wpE, wpEs, wpT, L3.w_add, L3.w_addS, L3.w_addT, L3.w_sub, L3.w_mul, L3.w_fdiv, L3.w_mod, L3.w_pow, L3.w_iadd, L3.w_isub, L3.w_neg, L3.w_lt, L3.w_le, L3.w_gt, L3.w_ge, L3.w_eq, L3.w_ne, L3.w_in, L3.w_nin, L3.w_tb, L3.w_ti, L3.w_tt, L3.w_ix0, L3.w_ix1, L3.w_ix2, L3.w_lenT, L3.w_lenK, L3.w_int, L3.w_max, L3.w_min, L3.w_rng1, L3.w_rng2, L3.w_one, L3.w_ixK, L3.w_itS, L3.w_lenS, L3.w_many, L3.w_eqS, List.getElem?_cons_zero, List.getElem?_cons_succ, List.set_cons_zero, List.set_cons_succ, Option.some.injEq, exists_eq_left', decide_eq_true_eq, Bool.false_eq_true, if_false, if_true, Bool.not_true, Bool.not_false]
  refine ⟨ns, rfl, fun d ys M1 hd hM1 bt1 => ⟨len2 _ _, fun b hb => ?_⟩⟩
  have nb : b ≠ d := by rintro rfl; rw [hM1] at hb; cases hb
  have bx : Box (mset M1 b (.lst [.ref d, .int 0])) b d := ⟨ys, 0, mset_same, (mset_ne nb.symm).trans hM1, nb⟩
  revert bx
  generalize mset M1 b (.lst [.ref d, .int 0]) = M2
  intro bx
  simp only [wpSs, wpS, wpE, wpEs, wpT, L3.w_add, L3.w_addS, L3.w_addT, L3.w_sub, L3.w_mul, L3.w_fdiv, L3.w_mod, L3.w_pow, L3.w_iadd, L3.w_isub, L3.w_neg, L3.w_lt, L3.w_le, L3.w_gt, L3.w_ge, L3.w_eq, L3.w_ne, L3.w_in, L3.w_nin, L3.w_tb, L3.w_ti, L3.w_tt, L3.w_ix0, L3.w_ix1, L3.w_ix2, L3.w_lenT, L3.w_lenK, L3.w_int, L3.w_max, L3.w_min, L3.w_rng1, L3.w_rng2, L3.w_one, L3.w_ixK, L3.w_itS, L3.w_lenS, L3.w_many, L3.w_eqS, List.getElem?_cons_zero, List.getElem?_cons_succ, List.set_cons_zero, List.set_cons_succ, Option.some.injEq, exists_eq_left', decide_eq_true_eq, Bool.false_eq_true, if_false, if_true, Bool.not_true, Bool.not_false]
  refine ⟨b, d, 9, rfl, by decide, bx, fun v0 M3 v1 v2 bx3 bt3 => ?_⟩
  obtain ⟨v0, rfl⟩ := Int.eq_ofNat_of_zero_le v1
  simp only [wpSs, wpS, wpE, wpEs, wpT, L3.w_add, L3.w_addS, L3.w_addT, L3.w_sub, L3.w_mul, L3.w_fdiv, L3.w_mod, L3.w_pow, L3.w_iadd, L3.w_isub, L3.w_neg, L3.w_lt, L3.w_le, L3.w_gt, L3.w_ge, L3.w_eq, L3.w_ne, L3.w_in, L3.w_nin, L3.w_tb, L3.w_ti, L3.w_tt, L3.w_ix0, L3.w_ix1, L3.w_ix2, L3.w_lenT, L3.w_lenK, L3.w_int, L3.w_max, L3.w_min, L3.w_rng1, L3.w_rng2, L3.w_one, L3.w_ixK, L3.w_itS, L3.w_lenS, L3.w_many, L3.w_eqS, List.getElem?_cons_zero, List.getElem?_cons_succ, List.set_cons_zero, List.set_cons_succ, Option.some.injEq, exists_eq_left', decide_eq_true_eq, Bool.false_eq_true, if_false, if_true, Bool.not_true, Bool.not_false]
  refine ⟨b, d, 8, rfl, by decide, bx3, fun o0 M4 o1 o2 bx4 bt4 => ?_⟩
  obtain ⟨o0, rfl⟩ := Int.eq_ofNat_of_zero_le o1
  simp only [wpSs, wpS, wpE, wpEs, wpT, L3.w_add, L3.w_addS, L3.w_addT, L3.w_sub, L3.w_mul, L3.w_fdiv, L3.w_mod, L3.w_pow, L3.w_iadd, L3.w_isub, L3.w_neg, L3.w_lt, L3.w_le, L3.w_gt, L3.w_ge, L3.w_eq, L3.w_ne, L3.w_in, L3.w_nin, L3.w_tb, L3.w_ti, L3.w_tt, L3.w_ix0, L3.w_ix1, L3.w_ix2, L3.w_lenT, L3.w_lenK, L3.w_int, L3.w_max, L3.w_min, L3.w_rng1, L3.w_rng2, L3.w_one, L3.w_ixK, L3.w_itS, L3.w_lenS, L3.w_many, L3.w_eqS, List.getElem?_cons_zero, List.getElem?_cons_succ, List.set_cons_zero, List.set_cons_succ, Option.some.injEq, exists_eq_left', decide_eq_true_eq, Bool.false_eq_true, if_false, if_true, Bool.not_true, Bool.not_false]
  refine ⟨by decide, ?_⟩
  obtain ⟨v, hv, hv'⟩ : ∃ v : Nat, (1 : Int) + (v0 : Int) = (v : Nat) ∧ v ≤ 100 := ⟨1 + v0, by omega, by omega⟩
  obtain ⟨o, ho, ho'⟩ : ∃ o : Nat, (1 : Int) + ((v : Int) + (o0 : Int)) % 9 = (o : Nat) ∧ o ≤ 100 := ⟨(1 + ((v : Int) + (o0 : Int)) % 9).toNat, by omega, by omega⟩
  simp only [hv]
  rw [ho]
  intro L hL
  refine ⟨L, v, o, rfl, mset_same, fun A B M5 hA hB nAB l5 a5 b5 s5 => ⟨rfl, ?_⟩⟩
  refine ⟨rfl, fun E hE => ?_⟩
  simp only [wpSs, wpS, wpE, wpEs, wpT, L3.w_add, L3.w_addS, L3.w_addT, L3.w_sub, L3.w_mul, L3.w_fdiv, L3.w_mod, L3.w_pow, L3.w_iadd, L3.w_isub, L3.w_neg, L3.w_lt, L3.w_le, L3.w_gt, L3.w_ge, L3.w_eq, L3.w_ne, L3.w_in, L3.w_nin, L3.w_tb, L3.w_ti, L3.w_tt, L3.w_ix0, L3.w_ix1, L3.w_ix2, L3.w_lenT, L3.w_lenK, L3.w_int, L3.w_max, L3.w_min, L3.w_rng1, L3.w_rng2, L3.w_one, L3.w_ixK, L3.w_itS, L3.w_lenS, L3.w_many, L3.w_eqS, List.getElem?_cons_zero, List.getElem?_cons_succ, List.set_cons_zero, List.set_cons_succ, Option.some.injEq, exists_eq_left', decide_eq_true_eq, Bool.false_eq_true, if_false, if_true, Bool.not_true, Bool.not_false]
  refine ⟨Nat.zero_le _, fun C hC => ?_⟩
  simp only [wpSs, wpS, wpE, wpEs, wpT, L3.w_add, L3.w_addS, L3.w_addT, L3.w_sub, L3.w_mul, L3.w_fdiv, L3.w_mod, L3.w_pow, L3.w_iadd, L3.w_isub, L3.w_neg, L3.w_lt, L3.w_le, L3.w_gt, L3.w_ge, L3.w_eq, L3.w_ne, L3.w_in, L3.w_nin, L3.w_tb, L3.w_ti, L3.w_tt, L3.w_ix0, L3.w_ix1, L3.w_ix2, L3.w_lenT, L3.w_lenK, L3.w_int, L3.w_max, L3.w_min, L3.w_rng1, L3.w_rng2, L3.w_one, L3.w_ixK, L3.w_itS, L3.w_lenS, L3.w_many, L3.w_eqS, List.getElem?_cons_zero, List.getElem?_cons_succ, List.set_cons_zero, List.set_cons_succ, Option.some.injEq, exists_eq_left', decide_eq_true_eq, Bool.false_eq_true, if_false, if_true, Bool.not_true, Bool.not_false]
  have nAL : A ≠ L := by rintro rfl; rw [mset_same] at hA; cases hA
  have nBL : B ≠ L := by rintro rfl; rw [mset_same] at hB; cases hB
  rw [mset_ne nAL] at hA
  rw [mset_ne nBL] at hB
  have hl5 : ∀ c l, M4 c = some (.lst l) → M5 c = some (.lst l) := fun c l e => by
    have cL := ne_new e hL
    rw [s5 c cL (ne_new e hA) (ne_new e hB), mset_ne cL, e]
  have nEL : L ≠ E := ne_new l5 hE
  have nEA : A ≠ E := ne_new a5 hE
  have nEB : B ≠ E := ne_new b5 hE
  have up : ∀ c o, M5 c = some o → mset (mset M5 E (.dct [])) C (.lst []) c = some o := fun c o e => by
    have e2 : mset M5 E (.dct []) c = some o := (mset_ne (ne_new e hE)).trans e
    exact (mset_ne (ne_new e2 hC)).trans e2
  have nEC : E ≠ C := by rintro rfl; rw [mset_same] at hC; cases hC
  have lin : Lin (mset (mset M5 E (.dct [])) C (.lst [])) b d L A B E C v o 0 [] [] [] := by
    obtain ⟨xs, at_, g1, g2, g3⟩ := bx4
    have q1 := hl5 _ _ g1
    have q2 := hl5 _ _ g2
    have q1' : mset M5 E (.dct []) b = _ := (mset_ne (ne_new q1 hE)).trans q1
    have q2' : mset M5 E (.dct []) d = _ := (mset_ne (ne_new q2 hE)).trans q2
    exact ⟨⟨xs, at_, up _ _ q1, up _ _ q2, g3⟩, up _ _ l5, up _ _ a5, up _ _ b5, (mset_ne nEC).trans mset_same, mset_same, ne_new q1' hC, ne_new q2' hC, nAB, nEA, nEB, fun t ht => nomatch ht⟩
  have fin0 : Fine 0 0 [] [] [] := ⟨(fun t ht => nomatch ht), List.nodup_nil, Nat.le_refl _, Nat.le_refl _, Nat.le_refl _, Nat.le_refl _, fun n => Iff.rfl, fun n hn => nomatch hn⟩
  revert lin
  generalize mset (mset M5 E (.dct [])) C (.lst []) = M6
  intro lin
  refine ⟨b, d, 30, rfl, by decide, lin.bx, fun k M7 k0 k1 bx7 bt7 => ?_⟩
  have lin := lin.draw bt7 bx7
  simp only [wpSs, wpS, wpE, wpEs, wpT, L3.w_add, L3.w_addS, L3.w_addT, L3.w_sub, L3.w_mul, L3.w_fdiv, L3.w_mod, L3.w_pow, L3.w_iadd, L3.w_isub, L3.w_neg, L3.w_lt, L3.w_le, L3.w_gt, L3.w_ge, L3.w_eq, L3.w_ne, L3.w_in, L3.w_nin, L3.w_tb, L3.w_ti, L3.w_tt, L3.w_ix0, L3.w_ix1, L3.w_ix2, L3.w_lenT, L3.w_lenK, L3.w_int, L3.w_max, L3.w_min, L3.w_rng1, L3.w_rng2, L3.w_one, L3.w_ixK, L3.w_itS, L3.w_lenS, L3.w_many, L3.w_eqS, List.getElem?_cons_zero, List.getElem?_cons_succ, List.set_cons_zero, List.set_cons_succ, Option.some.injEq, exists_eq_left', decide_eq_true_eq, Bool.false_eq_true, if_false, if_true, Bool.not_true, Bool.not_false]
  refine ⟨sm k0 (by omega), forL_inv (fun i σ M' => ∃ m A E ts ns' cs e8 e9 e10 e11 e12 e13 e14, Lin M' b d L A B E C v o m ts ns' cs ∧ Fine i m ts ns' cs ∧ σ = [some (.kl (ns.map .int)), some (.ref b), some (.int (v : Nat)), some (.int (o : Nat)), some (.ref L), some (.ref E), some (.ref C), some (.int ((m : Nat))), e8, e9, e10, e11, e12, e13, e14]) ⟨0, A, E, [], [], [], none, none, none, none, none, none, none, lin, fin0, rfl⟩ ?_ ?_⟩
  · rintro i x σ M' nx hx ⟨m, A, E, ts, ns', cs, e8, e9, e10, e11, e12, e13, e14, hh, ff, rfl⟩ hnx
    obtain ⟨hj, rfl⟩ := dRange_get' hx
    refine ⟨trivial, ?_⟩
    simp only [wpSs, wpS, wpE, wpEs, wpT, L3.w_add, L3.w_addS, L3.w_addT, L3.w_sub, L3.w_mul, L3.w_fdiv, L3.w_mod, L3.w_pow, L3.w_iadd, L3.w_isub, L3.w_neg, L3.w_lt, L3.w_le, L3.w_gt, L3.w_ge, L3.w_eq, L3.w_ne, L3.w_in, L3.w_nin, L3.w_tb, L3.w_ti, L3.w_tt, L3.w_ix0, L3.w_ix1, L3.w_ix2, L3.w_lenT, L3.w_lenK, L3.w_int, L3.w_max, L3.w_min, L3.w_rng1, L3.w_rng2, L3.w_one, L3.w_ixK, L3.w_itS, L3.w_lenS, L3.w_many, L3.w_eqS, List.getElem?_cons_zero, List.getElem?_cons_succ, List.set_cons_zero, List.set_cons_succ, Option.some.injEq, exists_eq_left', decide_eq_true_eq, Bool.false_eq_true, if_false, if_true, Bool.not_true, Bool.not_false]
    exact ok_law2 hh ff (by omega) hv' ho' fun M' m' A' E' ts' ns' cs' e9 e10 e11 e12 e13 e14 h2 f2 => hnx _ _ ⟨m', A', E', ts', ns', cs', _, e9, e10, e11, e12, e13, e14, h2, f2, rfl⟩
  · rintro σ M' ⟨m, A, E, ts, ns', cs, e8, e9, e10, e11, e12, e13, e14, hh, ff, rfl⟩
    refine ⟨trivial, ?_⟩
    simp only [wpSs, wpS, wpE, wpEs, wpT, L3.w_add, L3.w_addS, L3.w_addT, L3.w_sub, L3.w_mul, L3.w_fdiv, L3.w_mod, L3.w_pow, L3.w_iadd, L3.w_isub, L3.w_neg, L3.w_lt, L3.w_le, L3.w_gt, L3.w_ge, L3.w_eq, L3.w_ne, L3.w_in, L3.w_nin, L3.w_tb, L3.w_ti, L3.w_tt, L3.w_ix0, L3.w_ix1, L3.w_ix2, L3.w_lenT, L3.w_lenK, L3.w_int, L3.w_max, L3.w_min, L3.w_rng1, L3.w_rng2, L3.w_one, L3.w_ixK, L3.w_itS, L3.w_lenS, L3.w_many, L3.w_eqS, List.getElem?_cons_zero, List.getElem?_cons_succ, List.set_cons_zero, List.set_cons_succ, Option.some.injEq, exists_eq_left', decide_eq_true_eq, Bool.false_eq_true, if_false, if_true, Bool.not_true, Bool.not_false]
    exact q _
end K51
end
section
set_option Elab.async false
set_option linter.all false
set_option maxRecDepth 100000
set_option maxHeartbeats 0
namespace K51
open L3 PySem.Spec PyProof.Rows L2
open PySem (Addr Str PyData)
theorem S0 : StP P0 md 0 p__law_draw := ⟨sc__law_draw, ir__law_draw, fun xs M Q X h => by obtain ⟨_, _, _, rfl, _⟩ := h; rfl, ok_draw, bd__law_draw⟩
theorem S1 : StP P0 md 1 p__law_same := ⟨sc__law_same, ir__law_same, fun xs M Q X h => by obtain ⟨_, _, rfl, _⟩ := h; rfl, ok_same, bd__law_same⟩
theorem S2 : StP P0 md 2 p_complete_in := ⟨sc_complete_in, ir_complete_in, fun xs M Q X h => by obtain ⟨_, _, rfl, _⟩ := h; rfl, ok_completeIn, bd_complete_in⟩
theorem S3 : StP P0 md 3 p_Line_complete := ⟨sc_Line_complete, ir_Line_complete, fun xs M Q X h => by obtain ⟨_, _, _, _, _, _, _, rfl, _⟩ := h; rfl, ok_complete, bd_Line_complete⟩
theorem S4 : StP P0 md 4 p_write_count := ⟨sc_write_count, ir_write_count, fun xs M Q X h => by obtain ⟨_, rfl, _⟩ := h; rfl, ok_wcount, bd_write_count⟩
theorem S5 : StP P0 md 5 p_write_text := ⟨sc_write_text, ir_write_text, fun xs M Q X h => by obtain ⟨_, rfl, _⟩ := h; rfl, ok_wtext, bd_write_text⟩
theorem S6 : StP P0 md 6 p_write_content := ⟨sc_write_content, ir_write_content, fun xs M Q X h => by obtain ⟨_, _, rfl, _⟩ := h; rfl, ok_wcontent, bd_write_content⟩
theorem S7 : StP P0 md 7 p_write_packet := ⟨sc_write_packet, ir_write_packet, fun xs M Q X h => by obtain ⟨_, _, _, _, _, rfl, _⟩ := h; rfl, ok_wpacket, bd_write_packet⟩
theorem S8 : StP P0 md 8 p_Line_put := ⟨sc_Line_put, ir_Line_put, fun xs M Q X h => by obtain ⟨_, _, _, _, _, _, _, _, _, rfl, _⟩ := h; rfl, ok_put, bd_Line_put⟩
theorem S9 : StP P0 md 9 p_Line_acknowledged := ⟨sc_Line_acknowledged, ir_Line_acknowledged, fun xs M Q X h => by obtain ⟨_, _, _, _, _, _, _, _, rfl, _⟩ := h; rfl, ok_ack, bd_Line_acknowledged⟩
theorem S10 : StP P0 md 10 p_Line_accept := ⟨sc_Line_accept, ir_Line_accept, fun xs M Q X h => by obtain ⟨_, _, _, _, _, _, _, _, rfl, _⟩ := h; rfl, ok_accept, bd_Line_accept⟩
theorem S11 : StP P0 md 11 p_Line___init__ := ⟨sc_Line___init__, ir_Line___init__, fun xs M Q X h => by obtain ⟨_, _, _, rfl, _⟩ := h; rfl, ok_init, bd_Line___init__⟩
theorem S12 : StP P0 md 12 p__law_cell := ⟨sc__law_cell, ir__law_cell, fun xs M Q X h => by obtain ⟨_, _, rfl, _⟩ := h; rfl, ok_cell, bd__law_cell⟩
theorem S13 : StP P0 md 13 p__law_digits := ⟨sc__law_digits, ir__law_digits, fun xs M Q X h => by obtain ⟨_, rfl, _⟩ := h; rfl, ok_digits, bd__law_digits⟩
theorem S14 : StP P0 md 14 p_law := ⟨sc_law, ir_law, fun xs M Q X h => by obtain ⟨_, rfl, _⟩ := h; rfl, ok_law, bd_law⟩
theorem allS0 : AllD (StP P0 md) 0 md.ds := ⟨S0, S1, S2, S3, S4, S5, S6, S7, S8, S9, S10, S11, S12, S13, S14, trivial⟩
end K51
open PySem PySem.W PySem.Calls PyProof.Rows
theorem PySem.Challenge.cw_vatlink_k51_line_once_holds : PySem.Challenge.rw_vatlink_k51_line_once.Holds := by
  w_on; o_law
  refine HandSHeadRun.head_any (r := OpenLaw.row PySem.Challenge.rw_vatlink_k51_line_once) (q := view (OpenLaw.row PySem.Challenge.rw_vatlink_k51_line_once).prog [28]) (H := L3.hookOf K51.md) (ob := L3.obOf K51.md) (M := 4000) (loose := K51.loose) (d := HandSHeadRun.topDef (OpenLaw.row PySem.Challenge.rw_vatlink_k51_line_once).prog 28) (kwd := []) (L3.obOf_eq K51.md)
    (by kernel_rfl) (fun s => by kernel_rfl) K51.run (by kernel_rfl) (by kernel_rfl) (by kernel_rfl) (by rfl) (by first | assumption | decide +kernel) (by decide +kernel) ⟨rfl, rfl, rfl, rfl, rfl, by decide +kernel⟩ ?hw ?hc
  case hw => w_witness2
  case hc =>
    refine L3.hc3 (l := PySem.Challenge.rw_vatlink_k51_line_once) (n := 63) (i := 14) (x := "_law_script") (P := K51.P0) (m := K51.md) (dl := K51.p_law) rfl (by decide) (by kernel_rfl) (by decide +kernel) rfl K51.allS0 rfl rfl rfl (by kernel_rfl) ⟨rfl, by decide, by decide⟩ fun ns hn Q X q => ⟨ns, rfl, rfl, q⟩
end

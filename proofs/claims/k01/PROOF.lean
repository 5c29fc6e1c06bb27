import PyProof.Rows.All
import KE.KDictKeyed
import Wide.All
import OpenK.AllK
import Wide.FinOn
import HandS.ForMost
import HandS.TupAny
import PyProof.NeData
import PyProof.ReprReads
import HandS.Style
import HandS.Rev
import HandS.Codes
import HandS.Ends
import KE.KStateDown
import HandS.More
import HandS.Defaults
import HandS.Head0
import HandS.Head1
import HandS.Head2
import HandS.HeadEnd
import HandS.HeadHook1
import HandS.HeadHook2
import PyProof.Rows.RegRepr
import PySem.Challenge.RW_vatlink_k01_weights_exact
section
set_option autoImplicit false
set_option linter.all false
/-! L3: values with tuples by value, mutable objects at addresses, a small language, its weakest preconditions -/
namespace L3
open PySem

/-- a value: tuples by value; lists, dicts, instances by their address; kl: a list that nothing changes -/
inductive D where
  | non
  | bl (b : Bool)
  | int (i : Int)
  | str (x : Str)
  | tup (ds : List D)
  | ref (a : Addr)
  | kl (ds : List D)
  | exn (c : Nat) (ds : List D)
  deriving Inhabited

/-- a mutable object; lck: a dict while it is walked -/
inductive MO where
  | lst (ds : List D)
  | dct (kvs : List (D × D))
  | lck (kvs : List (D × D))
  | ins (c : Nat) (fs : List (Str × D))

abbrev Mp := Addr → Option MO
abbrev Lo := List (Option D)
abbrev Post := D → Mp → Prop
/-- a def's meaning: arguments, heap, what is wanted of the value, of an exception -/
abbrev Spec := List D → Mp → Post → Post → Prop

def mset (M : Mp) (a : Addr) (o : MO) : Mp := fun b => if b = a then some o else M b
theorem mset_same {M : Mp} {a : Addr} {o : MO} : mset M a o a = some o := if_pos rfl
theorem mset_ne {M : Mp} {a b : Addr} {o : MO} (h : b ≠ a) : mset M a o b = M b := if_neg h

mutual
def D.pure : D → Bool
  | .non | .bl _ | .int _ | .str _ => true
  | .tup ds => D.pures ds
  | .ref _ | .exn _ _ | .kl _ => false
def D.pures : List D → Bool
  | [] => true
  | d :: ds => d.pure && D.pures ds
end
mutual
/-- a value up to == -/
def D.key : D → NestedKey
  | .non => .none
  | .bl b => .num (if b = true then 1 else 0)
  | .int i => .num i
  | .str x => .text x
  | .tup ds => .tup (D.keys ds)
  | .ref _ | .exn _ _ | .kl _ => .none
def D.keys : List D → List NestedKey
  | [] => []
  | d :: ds => d.key :: D.keys ds
end
mutual
/-- as data -/
def D.py : D → PyData
  | .non => .none
  | .bl b => .bool b
  | .int i => .int i
  | .str x => .str x
  | .tup ds => .tuple (D.pys ds)
  | .ref _ | .exn _ _ | .kl _ => .none
def D.pys : List D → List PyData
  | [] => []
  | d :: ds => d.py :: D.pys ds
end
def D.eqv (x y : D) : Bool := NestedKey.beq x.key y.key
/-- two values that == may be asked of: both pure, not too deep -/
def D.flat (x : D) : Bool := x.pure && decide (x.key.depth ≤ 8)
/-- a key of a dict: an int, a text, or a tuple of keys -/
def D.hk : D → Bool
  | .int _ => true
  | .str _ => true
  | .tup ds => D.pures ds && decide ((D.tup ds).key.depth ≤ 8)
  | _ => false
def D.isT : D → Bool
  | .tup _ => true
  | _ => false
def dget (kvs : List (D × D)) (k : D) : Option D := (kvs.find? fun p => p.1.eqv k).map (·.2)
def dhas (kvs : List (D × D)) (k : D) : Bool := kvs.any fun p => p.1.eqv k
def dput (kvs : List (D × D)) (k v : D) : List (D × D) :=
  if dhas kvs k then kvs.map fun p => if p.1.eqv k then (p.1, v) else p else kvs ++ [(k, v)]
def ddel (kvs : List (D × D)) (k : D) : List (D × D) := kvs.filter fun p => !p.1.eqv k

/-! what a value reads as data through the heap -/
mutual
inductive Deep (M : Mp) : D → PyData → Prop where
  | non : Deep M .non .none
  | bl (b : Bool) : Deep M (.bl b) (.bool b)
  | int (i : Int) : Deep M (.int i) (.int i)
  | str (x : Str) : Deep M (.str x) (.str x)
  | tup {ds : List D} {ps : List PyData} : Deeps M ds ps → Deep M (.tup ds) (.tuple ps)
  | lst {a : Addr} {ds : List D} {ps : List PyData} : M a = some (.lst ds) → Deeps M ds ps → Deep M (.ref a) (.list ps)
inductive Deeps (M : Mp) : List D → List PyData → Prop where
  | nil : Deeps M [] []
  | cons {d : D} {ds : List D} {p : PyData} {ps : List PyData} : Deep M d p → Deeps M ds ps → Deeps M (d :: ds) (p :: ps)
end

/-! the language -/
inductive BOp where
  | add | sub | mul | fdiv | mod | pow | shl | shr
inductive UOp where
  | neg
inductive COp where
  | eq | ne | lt | le | gt | ge | isIn | notIn | is | isNot
/-- built-in functions and types, called -/
inductive Blt where
  | len | int | str | repr | max | min | abs | sum | list | tuple | sorted | range
/-- a built-in type, for isinstance -/
inductive Ty where
  | int | bool | str | list | tuple
/-- methods of built-in types -/
inductive Mth where
  | append | extend | pop | index | get | items | values | clear | remove | insert | join | split | keys
/-- what is walked -/
inductive ItK where
  | plain | range | enumerate | reversed | items | values | zip

inductive Tg where
  | one (i : Nat)
  | many (l : List Nat)

/-- which sequence is made of what is walked -/
inductive SeqF where
  | list | tuple | sorted | sum | dict

mutual
inductive E where
  | var (i : Nat)
  | int (i : Int)
  | str (x : Str)
  | bl (b : Bool)
  | non
  | con (d : D)
  | bin (o : BOp) (a b : E)
  | un (o : UOp) (a : E)
  | cmp (o : COp) (a b : E)
  | cmp2 (o o' : COp) (a b c : E)
  | and (a b : E)
  | or (a b : E)
  | not (a : E)
  | ite (c : T) (a b : E)
  | tup (es : Es)
  | lst (es : Es)
  | dct (es : Es)
  | call (f : Nat) (es : Es)
  | blt (f : Blt) (es : Es)
  | seq (f : SeqF) (k : ItK) (es : Es)
  | inst (a : E) (t : Ty)
  | mth (o : E) (m : Mth) (es : Es)
  | umth (o : E) (m : Str) (es : Es)
  | make (c : Nat) (es : Es)
  | ix (a b : E)
  | sl (a : E) (lo hi : E)
  | fld (a : E) (f : Str)
  | comp (own : List Nat) (elt : E) (t : Tg) (k : ItK) (es : Es) (c : T)
  | dcomp (own : List Nat) (kx vx : E) (t : Tg) (k : ItK) (es : Es) (c : T)
  | gen (all : Bool) (own : List Nat) (elt : E) (t : Tg) (k : ItK) (es : Es)
  | disp (tbl : Nat) (key : E) (es : Es)
inductive Es where
  | nil
  | cons (e : E) (es : Es)
inductive T where
  | tt
  | val (e : E)
  | and (a b : T)
  | or (a b : T)
  | not (a : T)
end

mutual
inductive S where
  | expr (e : E)
  | ret (e : E)
  | set (t : Tg) (e : E)
  | setIx (a b e : E)
  | setFld (a : E) (f : Str) (e : E)
  | aug (i : Nat) (o : BOp) (e : E)
  | augFld (a : E) (f : Str) (o : BOp) (e : E)
  | delIx (a b : E)
  | ite (c : T) (a b : Ss)
  | wh (c : T) (b : Ss)
  | for (t : Tg) (k : ItK) (es : Es) (b : Ss)
  | brk
  | cnt
  | pass
  | raise (c : Nat) (es : Es)
  | tryE (b : Ss) (c : Nat) (i : Option Nat) (h : Ss)
inductive Ss where
  | nil
  | cons (s : S) (ss : Ss)
end

/-! ### what a program is -/
structure Pr where
  sp : Nat → Spec
  /-- the def that is a class's __init__ -/
  ini : Nat → Nat
  /-- the def that is a class's method -/
  mt : Nat → Str → Option Nat
  /-- the def that a table gives for a text -/
  tab : Nat → Str → Option Nat
  /-- an exception class's fields -/
  exf : Nat → List Str
  /-- whether a clause of the second class takes an exception of the first one -/
  sub : Nat → Nat → Bool

/-! ### values -/
def truthy : D → Mp → (Bool → Prop) → Prop
  | .non, _, k => k false
  | .bl b, _, k => k b
  | .int i, _, k => k (i != 0)
  | .str x, _, k => x.length ≤ sizeLine ∧ k (x.length != 0)
  | .tup ds, _, k => k (!ds.isEmpty)
  | .ref a, M, k => match M a with
    | some (.lst ds) => k (!ds.isEmpty)
    | _ => False
  | .exn _ _, _, _ => False
  | .kl _, _, _ => False

/-- a factor below 2 ^ 64 -/
def MulOk (i j : Int) : Prop := (-(2 ^ 64) < i ∧ i < 2 ^ 64) ∨ (-(2 ^ 64) < j ∧ j < 2 ^ 64)
def wpNew (M : Mp) (o : MO) (Q : Post) : Prop := ∀ p, M p = none → Q (.ref p) (mset M p o)
def wpBin : BOp → D → D → Mp → Post → Prop
  | .add, .int i, .int j, M, Q => Q (.int (i + j)) M
  | .add, .str x, .str y, M, Q => x.length + y.length ≤ sizeLine ∧ Q (.str (x ++ y)) M
  | .add, .tup xs, .tup ys, M, Q => xs.length + ys.length ≤ sizeLine ∧ Q (.tup (xs ++ ys)) M
  | .add, .ref a, .ref b, M, Q => match M a, M b with
    | some (.lst xs), some (.lst ys) => xs.length + ys.length ≤ sizeLine ∧ wpNew M (.lst (xs ++ ys)) Q
    | _, _ => False
  | .sub, .int i, .int j, M, Q => Q (.int (i - j)) M
  | .mul, .int i, .int j, M, Q => MulOk i j ∧ Q (.int (i * j)) M
  | .fdiv, .int i, .int j, M, Q => (0 < j ∧ j < 1073741824) ∧ Q (.int (i / j)) M
  | .mod, .int i, .int j, M, Q => 0 < j ∧ Q (.int (i % j)) M
  | .pow, .int i, .int j, M, Q => (0 ≤ j ∧ j ≤ 1000000 ∧ i.natAbs < 2 ^ 64) ∧ Q (.int (i ^ j.toNat)) M
  | .shl, .int i, .int j, M, Q => (0 ≤ j ∧ j ≤ 1000000 ∧ i.natAbs < 2 ^ 64) ∧ Q (.int (i * 2 ^ j.toNat)) M
  | .shr, .int i, .int j, M, Q => 0 ≤ j ∧ Q (.int (i / 2 ^ j.toNat)) M
  | _, _, _, _, _ => False
/-- x op= y: of no list, which would be changed in place -/
def wpInp (o : BOp) (x y : D) (M : Mp) (Q : Post) : Prop := match o, x, y with
  | .add, .int i, .int j => wpBin .add (.int i) (.int j) M Q
  | .add, .str i, .str j => wpBin .add (.str i) (.str j) M Q
  | .sub, .int i, .int j => wpBin .sub (.int i) (.int j) M Q
  | .mul, .int i, .int j => wpBin .mul (.int i) (.int j) M Q
  | .fdiv, .int i, .int j => wpBin .fdiv (.int i) (.int j) M Q
  | _, _, _ => False
def wpUn : UOp → D → Mp → Post → Prop
  | .neg, .int i, M, Q => Q (.int (-i)) M
  | _, _, _, _ => False
def wpEq (x y : D) (M : Mp) (k : Bool → Prop) : Prop := match x, y with
  | .ref a, .ref b => ∃ p q, Deep M (.ref a) p ∧ Deep M (.ref b) q ∧ SeqAt.shaped p = true ∧ SeqAt.shaped q = true ∧ k (PyData.eqv p q)
  | x, y => (x.flat = true ∧ y.flat = true) ∧ k (x.eqv y)
def wpIn (x y : D) (M : Mp) (k : Bool → Prop) : Prop := match y with
  | .tup ds => (x.flat = true ∧ (∀ d ∈ ds, d.flat = true)) ∧ k (ds.any fun z => z.eqv x)
  | .str y => match x with
    | .str x => x.length = 1 ∧ k (decide (x.cps.getD 0 0 ∈ y.cps.toList))
    | _ => False
  | .ref a => match M a with
    | some (.lst ds) => (x.flat = true ∧ (∀ d ∈ ds, d.flat = true)) ∧ k (ds.any fun z => z.eqv x)
    | _ => False
  | _ => False
def D.isNon : D → Bool
  | .non => true
  | _ => false
def wpCmp (o : COp) (x y : D) (M : Mp) (k : Bool → Prop) : Prop := match o with
  | .eq => wpEq x y M k
  | .ne => wpEq x y M fun b => k (!b)
  | .isIn => wpIn x y M k
  | .notIn => wpIn x y M fun b => k (!b)
  | .lt => match x, y with
    | .int i, .int j => k (decide (i < j))
    | _, _ => False
  | .le => match x, y with
    | .int i, .int j => k (decide (i ≤ j))
    | _, _ => False
  | .gt => match x, y with
    | .int i, .int j => k (decide (j < i))
    | _, _ => False
  | .ge => match x, y with
    | .int i, .int j => k (decide (j ≤ i))
    | _, _ => False
  | .is => match x, y with
    | .bl a, .bl b => k (a == b)
    | x, .non => k x.isNon
    | _, _ => False
  | .isNot => match x, y with
    | .bl a, .bl b => k (!(a == b))
    | x, .non => k (!x.isNon)
    | _, _ => False
/-- an item by its place, from the end where it is below nought -/
def atD (ds : List D) (i : Int) : Option D := if 0 ≤ i then ds[i.toNat]? else if 0 ≤ i + ds.length then ds[(i + ds.length).toNat]? else none
def wpIx (x y : D) (M : Mp) (Q : Post) : Prop := match x with
  | .kl ds => match y with
    | .int i => ∃ d, atD ds i = some d ∧ Q d M
    | _ => False
  | .tup ds => match y with
    | .int i => ∃ d, atD ds i = some d ∧ Q d M
    | _ => False
  | .str z => match y with
    | .int i => ∃ c, z.length ≤ sizeLine ∧ atD (z.cps.toList.map fun c => .str ⟨#[c]⟩) i = some c ∧ Q c M
    | _ => False
  | .ref a => match M a with
    | some (.lst ds) => (match y with
      | .int i => ∃ d, atD ds i = some d ∧ Q d M
      | _ => False)
    | _ => False
  | _ => False
/-- a slice's end in a sequence of n items -/
def sEnd (n : Nat) (i : Int) : Nat := if 0 ≤ i then min i.toNat n else (i + n).toNat
def sLo (n : Nat) : D → Nat
  | .int i => sEnd n i
  | _ => 0
def sHi (n : Nat) : D → Nat
  | .int i => sEnd n i
  | _ => n
def D.ion : D → Bool
  | .int _ => true
  | .non => true
  | _ => false
def cut {α : Type} (ds : List α) (lo hi : D) : List α := (ds.drop (sLo ds.length lo)).take (sHi ds.length hi - sLo ds.length lo)
def wpSl (x lo hi : D) (M : Mp) (Q : Post) : Prop := (lo.ion = true ∧ hi.ion = true) ∧ match x with
  | .tup ds => Q (.tup (cut ds lo hi)) M
  | .str z => z.length ≤ sizeLine ∧ Q (.str ⟨(cut z.cps.toList lo hi).toArray⟩) M
  | .ref a => match M a with
    | some (.lst ds) => wpNew M (.lst (cut ds lo hi)) Q
    | _ => False
  | _ => False
def posOf (f : Str) : List Str → List D → Option D
  | g :: gs, d :: ds => if g = f then some d else posOf f gs ds
  | _, _ => none
def wpFld (P : Pr) (x : D) (f : Str) (M : Mp) (Q : Post) : Prop := match x with
  | .ref a => match M a with
    | some (.ins _ fs) => ∃ v, fs.lookup f = some v ∧ Q v M
    | _ => False
  | .exn c ds => ∃ v, posOf f (P.exf c) ds = some v ∧ Q v M
  | _ => False

/-! ### what is walked: the items, what must stay, the heap of the walk, what is undone behind it -/
def dRange (lo hi : Int) : List D := (List.range (hi - lo).toNat).map fun (k : Nat) => .int (lo + (k : Int))
def small62 (i : Int) : Prop := -(2 ^ 62) ≤ i ∧ i < 2 ^ 62
abbrev ItR := List D → (Mp → Prop) → Mp → (Mp → Mp) → Prop
def wpItD (f : List (D × D) → List D) (a : Addr) (kvs : List (D × D)) (M : Mp) (R : ItR) : Prop :=
  R (f kvs) (fun M' => M' a = some (.lck kvs)) (mset M a (.lck kvs)) fun M' => mset M' a (.dct kvs)
def enumD (ds : List D) : List D := ds.zipIdx.map fun p => .tup [.int p.2, p.1]
def wpIt (k : ItK) (ds : List D) (M : Mp) (R : ItR) : Prop := match k, ds with
  | .plain, [.tup xs] => R xs (fun _ => True) M id
  | .plain, [.kl xs] => R xs (fun _ => True) M id
  | .plain, [.str z] => z.length ≤ sizeLine ∧ R (z.cps.toList.map fun c => .str ⟨#[c]⟩) (fun _ => True) M id
  | .plain, [.ref a] => (match M a with
    | some (.lst xs) => R xs (fun M' => M' a = some (.lst xs)) M id
    | _ => False)
  | .range, [.int n] => small62 n ∧ R (dRange 0 n) (fun _ => True) M id
  | .range, [.int i, .int j] => (small62 i ∧ small62 j) ∧ R (dRange i j) (fun _ => True) M id
  | .enumerate, [.ref a] => (match M a with
    | some (.lst xs) => R (enumD xs) (fun M' => M' a = some (.lst xs)) M id
    | _ => False)
  | .reversed, [.ref a] => (match M a with
    | some (.lst xs) => R xs.reverse (fun M' => M' a = some (.lst xs)) M id
    | _ => False)
  | .items, [.ref a] => (match M a with
    | _ => False)
  | .values, [.ref a] => (match M a with
    | _ => False)
  | .zip, [.ref a, .ref b] => (match M a, M b with
    | some (.lst xs), some (.lst ys) => R ((xs.zip ys).map fun p => .tup [p.1, p.2]) (fun M' => M' a = some (.lst xs) ∧ M' b = some (.lst ys)) M id
    | _, _ => False)
  | _, _ => False

/-! ### targets -/
def setMany : List Nat → List D → Lo → Option Lo
  | [], [], σ => some σ
  | i :: is, d :: ds, σ => setMany is ds (σ.set i (some d))
  | _, _, _ => none
def wpTg (t : Tg) (d : D) (σ : Lo) (M : Mp) (k : Lo → Prop) : Prop := match t with
  | .one i => k (σ.set i (some d))
  | .many l => match d with
    | .tup ds => ∃ σ', setMany l ds σ = some σ' ∧ k σ'
    | .ref a => (match M a with
      | some (.lst ds) => ∃ σ', setMany l ds σ = some σ' ∧ k σ'
      | _ => False)
    | _ => False
def wipeL : List Nat → Lo → Lo
  | [], σ => σ
  | i :: is, σ => wipeL is (σ.set i none)

/-! ### built-ins -/
def allS : List D → Option (List Str)
  | [] => some []
  | .str x :: r => (allS r).map (x :: ·)
  | _ => none
def allI : List D → Option (List Int)
  | [] => some []
  | .int x :: r => (allI r).map (x :: ·)
  | _ => none
def isTy (d : D) (t : Ty) (M : Mp) : Bool := match t, d with
  | .int, .int _ => true
  | .int, .bl _ => true
  | .bool, .bl _ => true
  | .str, .str _ => true
  | .tuple, .tup _ => true
  | .list, .ref a => (match M a with
    | some (.lst _) => true
    | _ => false)
  | _, _ => false
def wpBlt (f : Blt) (ds : List D) (M : Mp) (Q : Post) : Prop := match f, ds with
  | .len, [.tup xs] => Q (.int xs.length) M
  | .len, [.kl xs] => Q (.int xs.length) M
  | .len, [.str x] => x.length ≤ sizeLine ∧ Q (.int x.length) M
  | .len, [.ref a] => (match M a with
    | some (.lst xs) => Q (.int xs.length) M
    | _ => False)
  | .int, [.int i] => Q (.int i) M
  | .int, [.bl b] => Q (.int (if b = true then 1 else 0)) M
  | .repr, [d] => ∃ p, Deep M d p ∧ p.showable = true ∧ p.shown.length ≤ sizeLine ∧ p.depth ≤ 40 ∧ Q (.str p.shown) M
  | .max, [.int i, .int j] => Q (.int (if j > i then j else i)) M
  | .min, [.int i, .int j] => Q (.int (if j < i then j else i)) M
  | .abs, [.int i] => Q (.int (if i < 0 then -i else i)) M
  | .str, [.int i] => i.natAbs.log2 < 1920 ∧ Q (.str (toString i)) M
  | _, _ => False
/-- an order of keys: ints, texts, tuples of them item by item -/
def wpSeq (f : SeqF) (xs : List D) (M : Mp) (Q : Post) : Prop := match f with
  | .list => xs.length ≤ sizeLine ∧ wpNew M (.lst xs) Q
  | .tuple => xs.length ≤ sizeLine ∧ Q (.tup xs) M
  | .sum => ∃ is, allI xs = some is ∧ Q (.int is.sum) M
  | _ => False
def wpExt (ds : List D) (a : Addr) (y : D) (M : Mp) (Q : Post) : Prop := match y with
  | .tup ys => ds.length + ys.length ≤ sizeLine ∧ Q .non (mset M a (.lst (ds ++ ys)))
  | .ref b => (match M b with
    | some (.lst ys) => ds.length + ys.length ≤ sizeLine ∧ Q .non (mset M a (.lst (ds ++ ys)))
    | _ => False)
  | _ => False
inductive RK where
  | lst | dct | str | tup
/-- what a receiver is when the arguments have not come -/
def rcv (x : D) (M : Mp) : Option RK := match x with
  | .str _ => some .str
  | .tup _ => some .tup
  | .ref a => (match M a with
    | some (.lst _) => some .lst
    | some (.dct _) => some .dct
    | some (.lck _) => some .dct
    | _ => none)
  | _ => none
/-- which methods are told -/
def mok : Option RK → Mth → Bool
  | some .lst, .append => true
  | _, _ => false
def wpMth (m : Mth) (o : D) (args : List D) (M : Mp) (Q : Post) : Prop := match o with
  | .ref a => (match M a with
    | some (.lst ds) => (match m, args with
      | .append, [d] => ds.length < sizeLine ∧ Q .non (mset M a (.lst (ds ++ [d])))
      | .extend, [y] => wpExt ds a y M Q
      | .pop, [] => ∃ ys d, ds = ys ++ [d] ∧ Q d (mset M a (.lst ys))
      | .pop, [.int i] => ∃ d, 0 ≤ i ∧ ds[i.toNat]? = some d ∧ Q d (mset M a (.lst (ds.eraseIdx i.toNat)))
      | .index, [d] => (d.flat = true ∧ ∀ z ∈ ds, z.flat = true) ∧ ∃ i, (ds.findIdx? fun z => z.eqv d) = some i ∧ Q (.int i) M
      | _, _ => False)
    | _ => False)
  | .str x => (match m, args with
    | .join, [.ref a] => (match M a with
      | some (.lst ds) => ∃ ys, allS ds = some ys ∧ (ys.map (·.length)).sum + ys.length * x.length ≤ 16777216 ∧ Q (.str (Txt.join x ys)) M
      | _ => False)
    | .index, [.str y] => y.length = 1 ∧ ∃ i, x.cps.toList.findIdx? (· == y.cps.getD 0 0) = some i ∧ Q (.int i) M
    | .split, [.str y] => (y.length ≠ 0 ∧ x.length + 2 ≤ sizeLine) ∧ wpNew M (.lst ((Txt.split x y).map .str)) Q
    | _, _ => False)
  | .tup ds => (match m, args with
    | .index, [d] => (d.flat = true ∧ ∀ z ∈ ds, z.flat = true) ∧ ∃ i, (ds.findIdx? fun z => z.eqv d) = some i ∧ Q (.int i) M
    | _, _ => False)
  | _ => False
/-- o[i] = v -/
def wpSetIx (o i v : D) (M : Mp) (k : Mp → Prop) : Prop := match o with
  | .ref a => (match M a with
    | some (.lst ds) => (match i with
      | .int i => (0 ≤ i ∧ i < ds.length) ∧ k (mset M a (.lst (ds.set i.toNat v)))
      | _ => False)
    | _ => False)
  | _ => False
def wpDel (o i : D) (M : Mp) (k : Mp → Prop) : Prop := match o with
  | .ref a => (match M a with
    | _ => False)
  | _ => False
def putFd (f : Str) (v : D) : List (Str × D) → List (Str × D)
  | [] => [(f, v)]
  | (g, x) :: r => if g = f then (g, v) :: r else (g, x) :: putFd f v r
def wpSetFld (o : D) (f : Str) (v : D) (M : Mp) (k : Mp → Prop) : Prop := match o with
  | .ref a => (match M a with
    | some (.ins c fs) => fs.length < 900 ∧ k (mset M a (.ins c (putFd f v fs)))
    | _ => False)
  | _ => False
/-- a dict display's pairs, put in one behind the other -/
def pairsD : List D → Option (List (D × D))
  | [] => some []
  | k :: v :: r => (pairsD r).map ((k, v) :: ·)
  | _ => none
def wpDisp (ds : List D) (M : Mp) (Q : Post) : Prop := ∃ ps, pairsD ds = some ps ∧ ps.length ≤ 15 ∧ (∀ p ∈ ps, ∀ q ∈ ps, p.1.hk = true ∧ p.1.isT = q.1.isT) ∧ wpNew M (.dct (ps.foldl (fun acc p => dput acc p.1 p.2) [])) Q

/-! ### loops -/
/-- a comprehension's items: body tells for each whether it comes in -/
def compL (body : D → Mp → (Option D → Mp → Prop) → Prop) (G : Mp → Prop) : List D → List D → Mp → (List D → Mp → Prop) → Prop
  | [], acc, M, Q => G M ∧ Q acc M
  | x :: xs, acc, M, Q => G M ∧ body x M fun r M1 => compL body G xs (match r with | some d => acc ++ [d] | none => acc) M1 Q
/-- .. of a dict comprehension -/
def dcompL (body : D → Mp → (Option (D × D) → Mp → Prop) → Prop) (G : Mp → Prop) : List D → List (D × D) → Mp → (List (D × D) → Mp → Prop) → Prop
  | [], acc, M, Q => G M ∧ Q acc M
  | x :: xs, acc, M, Q => G M ∧ body x M fun r M1 => match r with
    | none => dcompL body G xs acc M1 Q
    | some p => (p.1.hk = true ∧ (∀ q ∈ acc, q.1.isT = p.1.isT) ∧ acc.length < sizeLine) ∧ dcompL body G xs (dput acc p.1 p.2) M1 Q
/-- any, all -/
def genL (all : Bool) (body : D → Mp → (Bool → Mp → Prop) → Prop) (G : Mp → Prop) : List D → Mp → (Bool → Mp → Prop) → Prop
  | [], M, Q => G M ∧ Q all M
  | x :: xs, M, Q => G M ∧ body x M fun b M1 => if b = all then genL all body G xs M1 Q else Q (!all) M1

structure Ends where
  nx : Lo → Mp → Prop
  rt : Post
  bk : Lo → Mp → Prop := fun _ _ => False
  ct : Lo → Mp → Prop := fun _ _ => False
def forL (t : Tg) (body : Ends → Lo → Mp → Prop) (G : Mp → Prop) (K : Ends) : List D → Lo → Mp → Prop
  | [], σ, M => G M ∧ K.nx σ M
  | x :: xs, σ, M => G M ∧ wpTg t x σ M fun σ1 => body ⟨forL t body G K xs, K.rt, K.nx, forL t body G K xs⟩ σ1 M
def whL (c : Lo → Mp → (Bool → Mp → Prop) → Prop) (body : Ends → Lo → Mp → Prop) (D : Ends) : Nat → Lo → Mp → Prop
  | 0, _, _ => False
  | n + 1, σ, M => c σ M fun b M1 => if b = true then body ⟨whL c body D n, D.rt, D.nx, whL c body D n⟩ σ M1 else D.nx σ M1

/-! ### weakest preconditions; X: what is wanted of an exception -/
abbrev Xp := D → Mp → Prop
mutual
def wpE (P : Pr) (X : Xp) : E → Lo → Mp → Post → Prop
  | .var i, σ, M, Q => ∃ d, σ[i]? = some (some d) ∧ Q d M
  | .int i, _, M, Q => Q (.int i) M
  | .str x, _, M, Q => Q (.str x) M
  | .bl b, _, M, Q => Q (.bl b) M
  | .non, _, M, Q => Q .non M
  | .con d, _, M, Q => Q d M
  | .bin o a b, σ, M, Q => wpE P X a σ M fun x M1 => wpE P X b σ M1 fun y M2 => wpBin o x y M2 Q
  | .un o a, σ, M, Q => wpE P X a σ M fun x M1 => wpUn o x M1 Q
  | .cmp o a b, σ, M, Q => wpE P X a σ M fun x M1 => wpE P X b σ M1 fun y M2 => wpCmp o x y M2 fun r => Q (.bl r) M2
  | .cmp2 o o' a b c, σ, M, Q => wpE P X a σ M fun x M1 => wpE P X b σ M1 fun y M2 => wpCmp o x y M2 fun r =>
      if r = true then wpE P X c σ M2 fun z M3 => wpCmp o' y z M3 fun r' => Q (.bl r') M3 else Q (.bl false) M2
  | .and a b, σ, M, Q => wpE P X a σ M fun x M1 => truthy x M1 fun r => if r = true then wpE P X b σ M1 Q else Q x M1
  | .or a b, σ, M, Q => wpE P X a σ M fun x M1 => truthy x M1 fun r => if r = true then Q x M1 else wpE P X b σ M1 Q
  | .not a, σ, M, Q => wpE P X a σ M fun x M1 => truthy x M1 fun r => Q (.bl (!r)) M1
  | .ite c a b, σ, M, Q => wpT P X c σ M fun r M1 => if r = true then wpE P X a σ M1 Q else wpE P X b σ M1 Q
  | .tup es, σ, M, Q => wpEs P X es σ M fun ds M1 => ds.length ≤ sizeLine ∧ Q (.tup ds) M1
  | .lst es, σ, M, Q => wpEs P X es σ M fun ds M1 => ds.length ≤ sizeLine ∧ wpNew M1 (.lst ds) Q
  | .dct es, σ, M, Q => wpEs P X es σ M fun ds M1 => wpDisp ds M1 Q
  | .call f es, σ, M, Q => wpEs P X es σ M fun ds M1 => P.sp f ds M1 Q X
  | .blt f es, σ, M, Q => wpEs P X es σ M fun ds M1 => wpBlt f ds M1 Q
  | .seq f k es, σ, M, Q => wpEs P X es σ M fun ds M1 => wpIt k ds M1 fun xs _ _ _ => wpSeq f xs M1 Q
  | .inst a t, σ, M, Q => wpE P X a σ M fun x M1 => Q (.bl (isTy x t M1)) M1
  | .mth o m es, σ, M, Q => wpE P X o σ M fun x M1 => mok (rcv x M1) m = true ∧ wpEs P X es σ M1 fun ds M2 => rcv x M2 = rcv x M1 ∧ wpMth m x ds M2 Q
  | .umth o m es, σ, M, Q => wpE P X o σ M fun x M1 => match x with
    | .ref a => (match M1 a with
      | some (.ins c fs) => fs.lookup m = none ∧ ∃ f, P.mt c m = some f ∧ wpEs P X es σ M1 fun ds M2 => P.sp f (x :: ds) M2 Q X
      | _ => False)
    | _ => False
  | .make c es, σ, M, Q => wpEs P X es σ M fun ds M1 => ∀ p, M1 p = none → P.sp (P.ini c) (.ref p :: ds) (mset M1 p (.ins c [])) (fun _ M2 => Q (.ref p) M2) X
  | .ix a b, σ, M, Q => wpE P X a σ M fun x M1 => wpE P X b σ M1 fun y M2 => wpIx x y M2 Q
  | .sl a lo hi, σ, M, Q => wpE P X a σ M fun x M1 => wpE P X lo σ M1 fun l M2 => wpE P X hi σ M2 fun h M3 => wpSl x l h M3 Q
  | .fld a f, σ, M, Q => wpE P X a σ M fun x M1 => wpFld P x f M1 Q
  | .comp own elt t k es c, σ, M, Q => wpEs P X es σ M fun ds M1 => wpIt k ds M1 fun xs G M2 fin =>
      compL (fun x M kk => wpTg t x (wipeL own σ) M fun σ1 => wpT P (fun _ _ => False) c σ1 M fun r M3 => if r = true then wpE P (fun _ _ => False) elt σ1 M3 fun d M4 => kk (some d) M4 else kk none M3) G xs [] M2
        fun acc M5 => acc.length ≤ sizeLine ∧ wpNew (fin M5) (.lst acc) Q
  | .dcomp own kx vx t k es c, σ, M, Q => wpEs P X es σ M fun ds M1 => wpIt k ds M1 fun xs G M2 fin =>
      dcompL (fun x M kk => wpTg t x (wipeL own σ) M fun σ1 => wpT P (fun _ _ => False) c σ1 M fun r M3 => if r = true then wpE P (fun _ _ => False) kx σ1 M3 fun d M4 => wpE P (fun _ _ => False) vx σ1 M4 fun d' M5 => kk (some (d, d')) M5 else kk none M3) G xs [] M2
        fun acc M5 => wpNew (fin M5) (.dct acc) Q
  | .gen all own elt t k es, σ, M, Q => wpEs P X es σ M fun ds M1 => wpIt k ds M1 fun xs G M2 fin =>
      genL all (fun x M kk => wpTg t x (wipeL own σ) M fun σ1 => wpE P (fun _ _ => False) elt σ1 M fun d M4 => truthy d M4 fun b => kk b M4) G xs M2 fun b M5 => Q (.bl b) (fin M5)
  | .disp tbl key es, σ, M, Q => wpE P X key σ M fun x M1 => match x with
    | .str z => ∃ f, P.tab tbl z = some f ∧ wpEs P X es σ M1 fun ds M2 => P.sp f ds M2 Q X
    | _ => False
def wpEs (P : Pr) (X : Xp) : Es → Lo → Mp → (List D → Mp → Prop) → Prop
  | .nil, _, M, Q => Q [] M
  | .cons e es, σ, M, Q => wpE P X e σ M fun d M1 => wpEs P X es σ M1 fun ds M2 => Q (d :: ds) M2
def wpT (P : Pr) (X : Xp) : T → Lo → Mp → (Bool → Mp → Prop) → Prop
  | .tt, _, M, k => k true M
  | .val e, σ, M, k => wpE P X e σ M fun x M1 => truthy x M1 fun r => k r M1
  | .and a b, σ, M, k => wpT P X a σ M fun r M1 => if r = true then wpT P X b σ M1 k else k false M1
  | .or a b, σ, M, k => wpT P X a σ M fun r M1 => if r = true then k true M1 else wpT P X b σ M1 k
  | .not a, σ, M, k => wpT P X a σ M fun r M1 => k (!r) M1
end
mutual
def wpS (P : Pr) : S → (D → Lo → Mp → Prop) → Ends → Lo → Mp → Prop
  | .expr e, X, D, σ, M => wpE P (fun x M => X x σ M) e σ M fun _ M1 => D.nx σ M1
  | .ret e, X, D, σ, M => wpE P (fun x M => X x σ M) e σ M D.rt
  | .set t e, X, D, σ, M => wpE P (fun x M => X x σ M) e σ M fun d M1 => wpTg t d σ M1 fun σ1 => D.nx σ1 M1
  | .setIx a b e, X, D, σ, M => wpE P (fun x M => X x σ M) e σ M fun v M1 => wpE P (fun x M => X x σ M) a σ M1 fun o M2 => wpE P (fun x M => X x σ M) b σ M2 fun i M3 => wpSetIx o i v M3 (D.nx σ)
  | .setFld a f e, X, D, σ, M => wpE P (fun x M => X x σ M) e σ M fun v M1 => wpE P (fun x M => X x σ M) a σ M1 fun o M2 => wpSetFld o f v M2 (D.nx σ)
  | .aug i o e, X, D, σ, M => ∃ d, σ[i]? = some (some d) ∧ wpE P (fun x M => X x σ M) e σ M fun y M1 => wpInp o d y M1 fun z M2 => D.nx (σ.set i (some z)) M2
  | .augFld a f o e, X, D, σ, M => wpE P (fun x M => X x σ M) a σ M fun x M1 => wpFld P x f M1 fun v M1 => wpE P (fun x M => X x σ M) e σ M1 fun y M2 => wpInp o v y M2 fun z M3 => wpSetFld x f z M3 (D.nx σ)
  | .delIx a b, X, D, σ, M => wpE P (fun x M => X x σ M) a σ M fun o M1 => wpE P (fun x M => X x σ M) b σ M1 fun i M2 => wpDel o i M2 (D.nx σ)
  | .ite c a b, X, D, σ, M => wpT P (fun x M => X x σ M) c σ M fun r M1 => if r = true then wpSs P a X D σ M1 else wpSs P b X D σ M1
  | .wh c b, X, D, σ, M => ∃ n, whL (fun σ M k => wpT P (fun x M => X x σ M) c σ M k) (fun D σ M => wpSs P b X D σ M) D n σ M
  | .for t k es b, X, D, σ, M => wpEs P (fun x M => X x σ M) es σ M fun ds M1 => wpIt k ds M1 fun xs G M2 fin =>
      forL t (fun D σ M => wpSs P b (fun x σ M => X x σ (fin M)) D σ M) G ⟨fun σ M => D.nx σ (fin M), fun d M => D.rt d (fin M), fun σ M => D.nx σ (fin M), fun _ _ => False⟩ xs σ M2
  | .brk, _, D, σ, M => D.bk σ M
  | .cnt, _, D, σ, M => D.ct σ M
  | .pass, _, D, σ, M => D.nx σ M
  | .raise c es, X, _, σ, M => wpEs P (fun x M => X x σ M) es σ M fun ds M1 => X (.exn c ds) σ M1
  | .tryE b c i h, X, D, σ, M => wpSs P b (fun x σ1 M1 => match x with
    | .exn c' ds => if P.sub c' c = true then
        (match i with
        | some i => wpSs P h X ⟨fun σ2 M2 => D.nx (σ2.set i none) M2, D.rt, fun σ2 M2 => D.bk (σ2.set i none) M2, fun σ2 M2 => D.ct (σ2.set i none) M2⟩ (σ1.set i (some x)) M1
        | none => wpSs P h X D σ1 M1)
      else X x σ1 M1
    | _ => False) D σ M
def wpSs (P : Pr) : Ss → (D → Lo → Mp → Prop) → Ends → Lo → Mp → Prop
  | .nil, _, D, σ, M => D.nx σ M
  | .cons s ss, X, D, σ, M => wpS P s X { D with nx := fun σ1 M1 => wpSs P ss X D σ1 M1 } σ M
end
/-- a def keeps its promise: n names, a body -/
def startL (n : Nat) (ds : List D) : Lo := ds.map some ++ List.replicate (n - ds.length) none
def Keeps (P : Pr) (sp : Spec) (n : Nat) (body : Ss) : Prop :=
  ∀ ds M Q X, sp ds M Q X → wpSs P body (fun x _ M => X x M) ⟨fun _ M => Q .non M, Q, fun _ _ => False, fun _ _ => False⟩ (startL n ds) M
end L3
end
section
set_option autoImplicit false
set_option linter.all false
set_option maxRecDepth 100000
/-! L3: from the text's syntax to the small language -/
namespace L3
open PySem

/-- what a name of the module is -/
inductive GR where
  | fn (i : Nat)
  | cls (c : Nat)
  | con (d : D)
  | blt
  | tab (t : Nat)
  | exc (c : Nat)
structure CC where
  N : List Str
  sc : Scope
  gl : List (Str × GR)
def CC.slot (cc : CC) (x : Str) : Option Nat :=
  if x == "__debug__" || x == "__classdict__" then none else
  match cc.sc.names.lookup x with
  | some .local => cc.N.findIdx? (· == x)
  | some .cell => cc.N.findIdx? (· == x)
  | some .free => cc.N.findIdx? (· == x)
  | _ => none
/-- a slot that may be stored to -/
def CC.slotW (cc : CC) (x : Str) : Option Nat :=
  match cc.sc.names.lookup x with
  | some .local => cc.N.findIdx? (· == x)
  | some .cell => cc.N.findIdx? (· == x)
  | _ => none
def CC.glob (cc : CC) (x : Str) : Option GR :=
  if x == "__debug__" || x == "__name__" then none else
  match cc.sc.names.lookup x with
  | some .globalImplicit => cc.gl.lookup x
  | _ => none
def cBop : Operator → Option BOp
  | .Add => some .add
  | .Sub => some .sub
  | .Mult => some .mul
  | .FloorDiv => some .fdiv
  | .Mod => some .mod
  | .Pow => some .pow
  | .LShift => some .shl
  | .RShift => some .shr
  | _ => none
def cCop : CmpOp → COp
  | .Eq => .eq
  | .NotEq => .ne
  | .Lt => .lt
  | .LtE => .le
  | .Gt => .gt
  | .GtE => .ge
  | .In => .isIn
  | .NotIn => .notIn
  | .Is => .is
  | .IsNot => .isNot
def cBlt (x : Str) : Option Blt :=
  if x == "len" then some .len
  else if x == "int" then some .int
  else if x == "repr" then some .repr
  else if x == "max" then some .max
  else if x == "min" then some .min
  else if x == "abs" then some .abs
  else if x == "str" then some .str
  else none
def cSeq (x : Str) : Option SeqF :=
  if x == "list" then some .list
  else if x == "tuple" then some .tuple
  else if x == "sorted" then some .sorted
  else if x == "sum" then some .sum
  else none
def cMth (x : Str) : Option Mth :=
  if x == "append" then some .append
  else if x == "extend" then some .extend
  else if x == "pop" then some .pop
  else if x == "index" then some .index
  else if x == "get" then some .get
  else if x == "join" then some .join
  else if x == "split" then some .split
  else none
def notStar : Expr → Bool
  | .Starred .. => false
  | _ => true
def notSlice : Expr → Bool
  | .Slice .. => false
  | _ => true
/-- no call without arguments of a name: super() stands apart -/
def noSuper : Expr → Bool
  | .Call (.Name ..) [] [] _ => false
  | _ => true
/-- an expression whose test is its value's truth -/
def plainTest : Expr → Bool
  | .Name .. => true
  | .Call .. => true
  | .Subscript .. => true
  | .Attribute .. => true
  | .Constant .. => true
  | _ => false
def noComp : Expr → Bool
  | .ListComp .. => false
  | .SetComp .. => false
  | .DictComp .. => false
  | _ => true
def noSet : Expr → Bool
  | .Set .. => false
  | _ => true
mutual
def cE : Nat → CC → Expr → Option E
  | 0, _, _ => none
  | n + 1, cc, e => match e with
    | .Name x _ => (match cc.slot x with
      | some i => some (.var i)
      | none => match cc.glob x with
        | some (.con d) => some (.con d)
        | _ => none)
    | .Constant c _ _ => (match c with
      | .int i => some (.int i)
      | .bool b => some (.bl b)
      | .str x => some (.str x)
      | .none => some .non
      | _ => none)
    | .BinOp a o b _ => (match cBop o, cE n cc a, cE n cc b with
      | some o', some a', some b' => some (.bin o' a' b')
      | _, _, _ => none)
    | .UnaryOp .Not a _ => (match cE n cc a with
      | some a' => some (.not a')
      | _ => none)
    | .UnaryOp .USub a _ => (match cE n cc a with
      | some a' => some (.un .neg a')
      | _ => none)
    | .Compare a [o] [b] _ => if behindInMarks o b then none else (match cE n cc a, cE n cc b with
      | some a', some b' => some (.cmp (cCop o) a' b')
      | _, _ => none)
    | .Compare a [o, o'] [b, c] _ => if lastMarks [o, o'] [b, c] then none else (match cE n cc a, cE n cc b, cE n cc c with
      | some a', some b', some c' => some (.cmp2 (cCop o) (cCop o') a' b' c')
      | _, _, _ => none)
    | .BoolOp _ [a] _ => cE n cc a
    | .BoolOp .And (a :: b :: r) p => (match cE n cc a, cE n cc (.BoolOp .And (b :: r) p) with
      | some a', some b' => some (.and a' b')
      | _, _ => none)
    | .BoolOp .Or (a :: b :: r) p => (match cE n cc a, cE n cc (.BoolOp .Or (b :: r) p) with
      | some a', some b' => some (.or a' b')
      | _, _ => none)
    | .IfExp c a b _ => (match cT n cc c, cE n cc a, cE n cc b with
      | some c', some a', some b' => some (.ite c' a' b')
      | _, _, _ => none)
    | .Tuple es _ _ => (match cEs n cc es with
      | some es' => some (.tup es')
      | _ => none)
    | .List es _ => (match cEs n cc es with
      | some es' => some (.lst es')
      | _ => none)
    | .Subscript a b _ => if notSlice b then (match cE n cc a, cE n cc b with
      | some a', some b' => some (.ix a' b')
      | _, _ => none) else none
    | .Call (.Name f _) es [] _ => (match cc.glob f, cEs n cc es with
      | some (.fn i), some es' => some (.call i es')
      | some .blt, some es' => (match cBlt f with
        | some b => (match es with
          | [] => none
          | _ => some (.blt b es'))
        | none => none)
      | _, _ => none)
    | .Call (.Attribute o m ap) es [] cp => if noSuper o && (ap.endLine == cp.line) && decide (es.length < 25) then (match cMth m, cE n cc o, cEs n cc es with
      | some m', some o', some es' => some (.mth o' m' es')
      | _, _, _ => none) else none
    | _ => none
def cEs : Nat → CC → List Expr → Option Es
  | 0, _, _ => none
  | _ + 1, _, [] => some .nil
  | n + 1, cc, e :: es => if notStar e then (match cE n cc e, cEs n cc es with
    | some e', some es' => some (.cons e' es')
    | _, _ => none) else none
def cT : Nat → CC → Expr → Option T
  | 0, _, _ => none
  | n + 1, cc, e => match e with
    | .BoolOp _ [a] _ => cT n cc a
    | .BoolOp .And (a :: b :: r) p => (match cT n cc a, cT n cc (.BoolOp .And (b :: r) p) with
      | some a', some b' => some (.and a' b')
      | _, _ => none)
    | .BoolOp .Or (a :: b :: r) p => (match cT n cc a, cT n cc (.BoolOp .Or (b :: r) p) with
      | some a', some b' => some (.or a' b')
      | _, _ => none)
    | .UnaryOp .Not a _ => (match cT n cc a with
      | some a' => some (.not a')
      | _ => none)
    | .Compare a [o] [b] _ => if behindInMarks o b then none else (match cE n cc a, cE n cc b with
      | some a', some b' => some (.val (.cmp (cCop o) a' b'))
      | _, _ => none)
    | .Compare a [o, o'] [b, c] _ => if lastMarks [o, o'] [b, c] then none else (match cE n cc a, cE n cc b, cE n cc c with
      | some a', some b', some c' => some (.val (.cmp2 (cCop o) (cCop o') a' b' c'))
      | _, _, _ => none)
    | e => if plainTest e then (match cE n cc e with
      | some e' => some (.val e')
      | _ => none) else none
end
/-- what a loop walks -/
def cI (n : Nat) (cc : CC) (e : Expr) : Option (ItK × Es) := match e with
  | .Call (.Name f _) es [] _ => (match cc.glob f, cEs n cc es with
    | some .blt, some es' => if f == "range" then (match es with
        | [_] => some (.range, es')
        | [_, _] => some (.range, es')
        | _ => none)
      else if f == "reversed" then (match es with
        | [_] => some (.reversed, es')
        | _ => none)
      else none
    | some (.fn i), some es' => some (.plain, .cons (.call i es') .nil)
    | _, _ => none)
  | e => (match cE n cc e with
    | some e' => if noSet e then some (.plain, .cons e' .nil) else none
    | none => none)
def cTg (cc : CC) (t : Expr) : Option Tg := match t with
  | .Name x _ => (match cc.slotW x with
    | some i => some (.one i)
    | none => none)
  | _ => none
mutual
def cS : Nat → CC → Stmt → Option S
  | 0, _, _ => none
  | n + 1, cc, s => match s with
    | .Expr e _ => if noComp e then (match cE n cc e with
      | some e' => some (.expr e')
      | none => none) else none
    | .Return (some e) _ => (match cE n cc e with
      | some e' => some (.ret e')
      | none => none)
    | .Assign [.Name x _] e _ => if noComp e then (match cc.slotW x, cE n cc e with
      | some i, some e' => some (.set (.one i) e')
      | _, _ => none) else none
    | .Assign [.Subscript a b _] e _ => if notSlice b && noComp e then (match cE n cc a, cE n cc b, cE n cc e with
      | some a', some b', some e' => some (.setIx a' b' e')
      | _, _, _ => none) else none
    | .AugAssign (.Name x _) o e _ => (match cc.slotW x, cBop o, cE n cc e with
      | some i, some o', some e' => some (.aug i o' e')
      | _, _, _ => none)
    | .If c a b _ => (match cT n cc c, cSs n cc a, cSs n cc b with
      | some c', some a', some b' => some (.ite c' a' b')
      | _, _, _ => none)
    | .While c b [] _ => (match cT n cc c, cSs n cc b with
      | some c', some b' => some (.wh c' b')
      | _, _ => none)
    | .For t i b [] _ => (match cTg cc t, cI n cc i, cSs n cc b with
      | some t', some (k, es'), some b' => some (.for t' k es' b')
      | _, _, _ => none)
    | .Pass _ => some .pass
    | .Break _ => some .brk
    | .Continue _ => some .cnt
    | _ => none
def cSs : Nat → CC → List Stmt → Option Ss
  | 0, _, _ => none
  | _ + 1, _, [] => some .nil
  | n + 1, cc, s :: ss => (match cS n cc s, cSs n cc ss with
    | some s', some ss' => some (.cons s' ss')
    | _, _ => none)
end
end L3
end
section
set_option autoImplicit false
set_option linter.all false
set_option maxRecDepth 100000
/-! L3: how the values and the heap of the small language lie in the hand layer's -/
namespace L3
open PySem L2

/-- the written part, the classes' addresses -/
structure Ct where
  P : Program
  w : World
  K : PySem.W.Frag
  ca : Nat → Addr

/-- a list that nothing changes -/
def SqF (K : PySem.W.Frag) (H : Hp) (a : Addr) (xs : List V) : Prop :=
  (∃ ob, H a = some (.frz ob (.lst xs))) ∨
    ∃ (o : Obj) (its : Array Value) (n : Nat), K.lookup a = some o ∧ o.cls = .type "list" ∧ o.dict = none ∧ o.data = .seq its n ∧ its.size ≤ sizeLine ∧ Vals xs its.toList
theorem SqF.sq {K : PySem.W.Frag} {H : Hp} {a : Addr} {xs : List V} (h : SqF K H a xs) : SqL K H a xs := by
  rcases h with ⟨ob, h⟩ | h
  · exact .inl (.inr ⟨ob, h⟩)
  · exact .inr h
mutual
def RD (C : Ct) (H : Hp) : D → V → Prop
  | .non, v => v = .non
  | .bl b, v => v = .bl b
  | .int i, v => v = .int i
  | .str x, v => v = .str x
  | .tup ds, v => ∃ a xs, v = .ref a ∧ SqT C.K H a xs ∧ RDs C H ds xs
  | .ref a, v => v = .ref a
  | .kl ds, v => ∃ a xs, v = .ref a ∧ SqF C.K H a xs ∧ RDs C H ds xs
  | .exn _ _, _ => False
def RDs (C : Ct) (H : Hp) : List D → List V → Prop
  | [], xs => xs = []
  | d :: ds, xs => ∃ x r, xs = x :: r ∧ RD C H d x ∧ RDs C H ds r
end
def KRel : D → Key → Prop
  | .int i, .inl j => i = j
  | .str x, .inr y => x = y
  | _, _ => False
/-- a dict of tuple keys, by its raw entries -/
def TDict (P : Program) (w : World) (a : Addr) (xs : List (NestedKey × Addr × Value)) (h : Heap) : Prop :=
  (a == sysModules) = false ∧ ∃ o es ep, h.get? a = some o ∧ o.ExactDict ∧ o.data = .dict es ep ∧ es.toList = xs.map (entryOfKey (nestedKind P w)) ∧ (xs.map (·.1)).Nodup
def RDct (C : Ct) (H : Hp) (kvs : List (D × D)) (o : HO) : Prop :=
  (∃ ks, o = .dK ks ∧ Paired (fun (p : D × D) (q : Key × V) => KRel p.1 q.1 ∧ RD C H p.2 q.2) kvs ks) ∨
  ∃ a xs, kvs ≠ [] ∧ o = .ext (TDict C.P C.w a xs) ∧ Paired (fun (p : D × D) (y : NestedKey × Addr × Value) => (p.1.hk = true ∧ p.1.isT = true ∧ p.1.key = y.1 ∧ RD C H p.1 (.ref y.2.1)) ∧ ∃ v, RelV v y.2.2 ∧ RD C H p.2 v) kvs xs
def RO (C : Ct) (H : Hp) (a : Addr) : MO → HO → Prop
  | .lst ds, .lst xs => RDs C H ds xs
  | .dct kvs, o => RDct C H kvs o
  | .lck kvs, .frz _ o => RDct C H kvs o
  | .ins c fs, .ins B _ gs => C.ca c = B ∧ Paired (fun (p : Str × D) (q : Str × V) => p.1 = q.1 ∧ RD C H p.2 q.2) fs gs
  | _, _ => False
def RM (C : Ct) (H : Hp) (M : Mp) : Prop := ∀ a o, M a = some o → ∃ u, H a = some u ∧ RO C H a o u
/-- what is tracked, but not told in M, stays -/
def Stp (H : Hp) (M : Mp) (H' : Hp) (M' : Mp) : Prop := ∀ a o, H a = some o → M a = none → H' a = some o ∧ M' a = none
theorem Stp.refl {H : Hp} {M : Mp} : Stp H M H M := fun _ _ h n => ⟨h, n⟩
theorem Stp.trans {H H1 H2 : Hp} {M M1 M2 : Mp} (a : Stp H M H1 M1) (b : Stp H1 M1 H2 M2) : Stp H M H2 M2 := fun c o h n => by
  obtain ⟨h1, n1⟩ := a c o h n
  exact b c o h1 n1

theorem RO.notup {C : Ct} {H : Hp} {a : Addr} {o : MO} {xs : List V} (h : RO C H a o (.tup xs)) : False := by
  cases o with
  | dct kvs =>
    rcases h with ⟨ks, e, _⟩ | ⟨b, ys, _, e, _⟩ <;> cases e
  | _ => exact h
theorem RO.nofrzt {C : Ct} {H : Hp} {a : Addr} {o : MO} {ob : Obj} {xs : List V} (h : RO C H a o (.frz ob (.tup xs))) : False := by
  cases o with
  | dct kvs => rcases h with ⟨ks, e, _⟩ | ⟨b, ys, _, e, _⟩ <;> cases e
  | lck kvs => rcases h with ⟨ks, e, _⟩ | ⟨b, ys, _, e, _⟩ <;> cases e
  | _ => exact h
theorem RO.nofrzl {C : Ct} {H : Hp} {a : Addr} {o : MO} {ob : Obj} {xs : List V} (h : RO C H a o (.frz ob (.lst xs))) : False := by
  cases o with
  | dct kvs => rcases h with ⟨ks, e, _⟩ | ⟨b, ys, _, e, _⟩ <;> cases e
  | lck kvs => rcases h with ⟨ks, e, _⟩ | ⟨b, ys, _, e, _⟩ <;> cases e
  | _ => exact h
section
variable {C : Ct} {H H' : Hp} {M M' : Mp}
theorem RM.frzl {a : Addr} {ob : Obj} {xs : List V} (r : RM C H M) (h : H a = some (.frz ob (.lst xs))) : M a = none := by
  cases e : M a with
  | none => rfl
  | some o =>
    obtain ⟨u, hu, ro⟩ := r a o e
    rw [h] at hu; cases hu
    exact ro.nofrzl.elim
theorem RM.tup {a : Addr} {xs : List V} (r : RM C H M) (h : H a = some (.tup xs)) : M a = none := by
  cases e : M a with
  | none => rfl
  | some o =>
    obtain ⟨u, hu, ro⟩ := r a o e
    rw [h] at hu; cases hu
    exact ro.notup.elim
theorem RM.frzt {a : Addr} {ob : Obj} {xs : List V} (r : RM C H M) (h : H a = some (.frz ob (.tup xs))) : M a = none := by
  cases e : M a with
  | none => rfl
  | some o =>
    obtain ⟨u, hu, ro⟩ := r a o e
    rw [h] at hu; cases hu
    exact ro.nofrzt.elim
/-- tuples stay -/
def TupK (H H' : Hp) : Prop := (∀ a xs, Rd H a (.tup xs) → Rd H' a (.tup xs)) ∧ ∀ a ob xs, H a = some (.frz ob (.lst xs)) → H' a = some (.frz ob (.lst xs))
theorem TupK.refl {H : Hp} : TupK H H := ⟨fun _ _ h => h, fun _ _ _ h => h⟩
theorem TupK.trans {H H1 H2 : Hp} (a : TupK H H1) (b : TupK H1 H2) : TupK H H2 := ⟨fun c xs h => b.1 c xs (a.1 c xs h), fun c ob xs h => b.2 c ob xs (a.2 c ob xs h)⟩
theorem Stp.tupK (r : RM C H M) (s : Stp H M H' M') : TupK H H' := ⟨fun a xs h => by
  rcases h with h | ⟨ob, h⟩
  · exact .inl (s a _ h (r.tup h)).1
  · exact .inr ⟨ob, (s a _ h (r.frzt h)).1⟩, fun a ob xs h => (s a _ h (r.frzl h)).1⟩
theorem TupK.sq (k : TupK H H') {K : PySem.W.Frag} {a : Addr} {xs : List V} (h : SqT K H a xs) : SqT K H' a xs := by
  rcases h with h | h
  · exact .inl (k.1 a xs h)
  · exact .inr h
theorem TupK.sqf (k : TupK H H') {K : PySem.W.Frag} {a : Addr} {xs : List V} (h : SqF K H a xs) : SqF K H' a xs := by
  rcases h with ⟨ob, h⟩ | h
  · exact .inl ⟨ob, k.2 a ob xs h⟩
  · exact .inr h
mutual
theorem RD.keep (k : TupK H H') : ∀ {d : D} {v : V}, RD C H d v → RD C H' d v
  | .non, v, h => h
  | .bl b, v, h => h
  | .int i, v, h => h
  | .str x, v, h => h
  | .tup ds, v, h => by
    obtain ⟨a, xs, e, hq, hs⟩ := h
    exact ⟨a, xs, e, k.sq hq, RDs.keep k hs⟩
  | .ref a, v, h => h
  | .kl ds, v, h => by
    obtain ⟨a, xs, e, hq, hs⟩ := h
    exact ⟨a, xs, e, k.sqf hq, RDs.keep k hs⟩
  | .exn _ _, v, h => h
theorem RDs.keep (k : TupK H H') : ∀ {ds : List D} {xs : List V}, RDs C H ds xs → RDs C H' ds xs
  | [], xs, h => h
  | d :: ds, xs, h => by
    obtain ⟨x, r, e, h1, h2⟩ := h
    exact ⟨x, r, e, RD.keep k h1, RDs.keep k h2⟩
end
theorem RDct.keep (k : TupK H H') {kvs : List (D × D)} {o : HO} (h : RDct C H kvs o) : RDct C H' kvs o := by
  rcases h with ⟨ks, e, p⟩ | ⟨a, xs, hn, e, p⟩
  · exact .inl ⟨ks, e, Paired.mapP p fun _ _ q => ⟨q.1, q.2.keep k⟩⟩
  · exact .inr ⟨a, xs, hn, e, Paired.mapP p fun _ _ q => ⟨⟨q.1.1, q.1.2.1, q.1.2.2.1, q.1.2.2.2.keep k⟩, let ⟨v, r1, r2⟩ := q.2; ⟨v, r1, r2.keep k⟩⟩⟩
theorem RO.keep (k : TupK H H') {a : Addr} {o : MO} {u : HO} (h : RO C H a o u) : RO C H' a o u := by
  cases o with
  | lst ds => cases u with
    | lst xs => exact RDs.keep k h
    | _ => exact h
  | dct kvs => exact RDct.keep k h
  | lck kvs => cases u with
    | frz ob u => exact RDct.keep k h
    | _ => exact h
  | ins c fs => cases u with
    | ins B dx gs => exact ⟨h.1, Paired.mapP h.2 fun _ _ q => ⟨q.1, q.2.keep k⟩⟩
    | _ => exact h
theorem RDs.length : ∀ {ds : List D} {xs : List V}, RDs C H ds xs → ds.length = xs.length
  | [], xs, h => by rw [show xs = [] from h]; rfl
  | d :: ds, xs, h => by
    obtain ⟨x, r, e, _, h2⟩ := h
    rw [e, List.length_cons, List.length_cons, RDs.length h2]
theorem RDs.append : ∀ {ds es : List D} {xs ys : List V}, RDs C H ds xs → RDs C H es ys → RDs C H (ds ++ es) (xs ++ ys)
  | [], es, xs, ys, h, h2 => by rw [show xs = [] from h]; exact h2
  | d :: ds, es, xs, ys, h, h2 => by
    obtain ⟨x, r, e, h1, h3⟩ := h
    rw [e]
    exact ⟨x, r ++ ys, rfl, h1, RDs.append h3 h2⟩
theorem RDs.get : ∀ {ds : List D} {xs : List V} {i : Nat} {d : D}, RDs C H ds xs → ds[i]? = some d → ∃ x, xs[i]? = some x ∧ RD C H d x
  | [], xs, i, d, h, e => by simp at e
  | d :: ds, xs, 0, d', h, e => by
    obtain ⟨x, r, e2, h1, h2⟩ := h
    have : d = d' := by simpa using e
    subst this
    exact ⟨x, by rw [e2]; rfl, h1⟩
  | d :: ds, xs, i + 1, d', h, e => by
    obtain ⟨x, r, e2, h1, h2⟩ := h
    obtain ⟨y, hy, ry⟩ := RDs.get (i := i) (d := d') h2 (by simpa using e)
    exact ⟨y, by rw [e2]; simpa using hy, ry⟩
theorem RDs.set : ∀ {ds : List D} {xs : List V} (i : Nat) {d : D} {x : V}, RDs C H ds xs → RD C H d x → RDs C H (ds.set i d) (xs.set i x)
  | [], xs, i, d, x, h, r => by rw [show xs = [] from h]; exact rfl
  | d :: ds, xs, 0, d', x', h, r => by
    obtain ⟨x, l, e2, h1, h2⟩ := h
    rw [e2]
    exact ⟨x', l, rfl, r, h2⟩
  | d :: ds, xs, i + 1, d', x', h, r => by
    obtain ⟨x, l, e2, h1, h2⟩ := h
    rw [e2]
    exact ⟨x, l.set i x', rfl, h1, RDs.set i h2 r⟩
theorem RDs.drop : ∀ {ds : List D} {xs : List V} (n : Nat), RDs C H ds xs → RDs C H (ds.drop n) (xs.drop n)
  | ds, xs, 0, h => h
  | [], xs, n + 1, h => by rw [show xs = [] from h]; exact rfl
  | d :: ds, xs, n + 1, h => by
    obtain ⟨x, l, e2, h1, h2⟩ := h
    rw [e2]
    exact RDs.drop n h2
theorem RDs.take : ∀ {ds : List D} {xs : List V} (n : Nat), RDs C H ds xs → RDs C H (ds.take n) (xs.take n)
  | ds, xs, 0, h => rfl
  | [], xs, n + 1, h => by rw [show xs = [] from h]; exact rfl
  | d :: ds, xs, n + 1, h => by
    obtain ⟨x, l, e2, h1, h2⟩ := h
    rw [e2]
    exact ⟨x, l.take n, rfl, h1, RDs.take n h2⟩
theorem RDs.eraseIdx : ∀ {ds : List D} {xs : List V} (n : Nat), RDs C H ds xs → RDs C H (ds.eraseIdx n) (xs.eraseIdx n)
  | [], xs, n, h => by rw [show xs = [] from h]; exact rfl
  | d :: ds, xs, 0, h => by
    obtain ⟨x, l, e2, h1, h2⟩ := h
    rw [e2]
    exact h2
  | d :: ds, xs, n + 1, h => by
    obtain ⟨x, l, e2, h1, h2⟩ := h
    rw [e2]
    exact ⟨x, l.eraseIdx n, rfl, h1, RDs.eraseIdx n h2⟩
theorem RDs.reverse : ∀ {ds : List D} {xs : List V}, RDs C H ds xs → RDs C H ds.reverse xs.reverse
  | [], xs, h => by rw [show xs = [] from h]; exact rfl
  | d :: ds, xs, h => by
    obtain ⟨x, l, e2, h1, h2⟩ := h
    rw [e2, List.reverse_cons, List.reverse_cons]
    exact RDs.append (RDs.reverse h2) ⟨x, [], rfl, h1, rfl⟩
theorem RDs.splitLast {ds : List D} {d : D} {xs : List V} (h : RDs C H (ds ++ [d]) xs) : ∃ ys y, xs = ys ++ [y] ∧ RDs C H ds ys ∧ RD C H d y := by
  have h1 := RDs.take ds.length h
  have h2 := RDs.drop ds.length h
  rw [List.take_left' rfl] at h1
  rw [List.drop_left' rfl] at h2
  obtain ⟨y, r, e, h3, h4⟩ := h2
  rw [show r = [] from h4] at e
  refine ⟨xs.take ds.length, y, ?_, h1, h3⟩
  rw [← e, List.take_append_drop]

/-- the values by slot -/
def RL (C : Ct) (H : Hp) (σ3 : Lo) (σ : L2.St) : Prop := σ3.length = σ.length ∧ ∀ (i : Nat) (d : D), σ3[i]? = some (some d) → ∃ v, σ[i]? = some (some v) ∧ RD C H d v
theorem RL.keep (k : TupK H H') {σ3 : Lo} {σ : L2.St} (h : RL C H σ3 σ) : RL C H' σ3 σ :=
  ⟨h.1, fun i d e => let ⟨v, e1, r⟩ := h.2 i d e; ⟨v, e1, r.keep k⟩⟩
theorem RL.set {σ3 : Lo} {σ : L2.St} (h : RL C H σ3 σ) {i : Nat} {d : D} {v : V} (r : RD C H d v) : RL C H (σ3.set i (some d)) (σ.set i (some v)) := by
  refine ⟨by rw [List.length_set, List.length_set]; exact h.1, fun j d' e => ?_⟩
  by_cases hj : i = j
  · subst hj
    by_cases hl : i < σ3.length
    · rw [List.getElem?_set_self hl] at e
      cases e
      exact ⟨v, by rw [List.getElem?_set_self (by rw [← h.1]; exact hl)], r⟩
    · rw [List.getElem?_eq_none (by rw [List.length_set]; omega)] at e
      cases e
  · rw [List.getElem?_set_ne hj] at e
    obtain ⟨v', e1, r1⟩ := h.2 j d' e
    exact ⟨v', by rw [List.getElem?_set_ne hj]; exact e1, r1⟩
/-- forgetting is free -/
theorem RL.unset {σ3 : Lo} {σ : L2.St} (h : RL C H σ3 σ) (i : Nat) : RL C H (σ3.set i none) σ := by
  refine ⟨by rw [List.length_set]; exact h.1, fun j d' e => ?_⟩
  by_cases hj : i = j
  · subst hj
    by_cases hl : i < σ3.length
    · rw [List.getElem?_set_self hl] at e
      cases e
    · rw [List.getElem?_eq_none (by rw [List.length_set]; omega)] at e
      cases e
  · rw [List.getElem?_set_ne hj] at e
    exact h.2 j d' e
end

/-- a state of the small language within a context: M0 stood at the context's entry -/
structure I3 (C : Ct) (X : Cx) (M0 : Mp) (pins : List (Addr × Obj)) (σ3 : Lo) (M : Mp) (σ : L2.St) (H : Hp) (s : Shared) : Prop where
  inv : Inv X pins σ H s
  lo : RL C H σ3 σ
  hp : RM C H M
  st : Stp X.H_0 M0 H M
/-- an expression has come to its end -/
def EP3 (C : Ct) (X : Cx) (M0 : Mp) (pins : List (Addr × Obj)) (σ3 : Lo) (σ : L2.St) (H : Hp) (M : Mp) (Q : Post) (u : Value) (s' : Shared) : Prop :=
  ∃ d M' v H', I3 C X M0 pins σ3 M' σ H' s' ∧ RelV v u ∧ RD C H' d v ∧ Stp H M H' M' ∧ Q d M'
def EPs3 (C : Ct) (X : Cx) (M0 : Mp) (pins : List (Addr × Obj)) (σ3 : Lo) (σ : L2.St) (H : Hp) (M : Mp) (Q : List D → Mp → Prop) (us : List Value) (s' : Shared) : Prop :=
  ∃ ds M' vs H', I3 C X M0 pins σ3 M' σ H' s' ∧ Vals vs us ∧ RDs C H' ds vs ∧ Stp H M H' M' ∧ Q ds M'
def TP3 (C : Ct) (X : Cx) (M0 : Mp) (pins : List (Addr × Obj)) (σ3 : Lo) (σ : L2.St) (H : Hp) (M : Mp) (k : Bool → Mp → Prop) (b : Bool) (s' : Shared) : Prop :=
  ∃ M' H', I3 C X M0 pins σ3 M' σ H' s' ∧ Stp H M H' M' ∧ k b M'
section
variable {C : Ct} {X : Cx} {M0 M M' : Mp} {pins : List (Addr × Obj)} {σ3 : Lo} {σ : L2.St} {H H' : Hp} {s s' : Shared}
theorem I3.to (I : I3 C X M0 pins σ3 M σ H s) (J : Inv X pins σ H' s') (r : RM C H' M') (t : Stp H M H' M') : I3 C X M0 pins σ3 M' σ H' s' :=
  ⟨J, I.lo.keep (t.tupK I.hp), r, I.st.trans t⟩
theorem I3.same (I : I3 C X M0 pins σ3 M σ H s) (J : Inv X pins σ H s') : I3 C X M0 pins σ3 M σ H s' := ⟨J, I.lo, I.hp, I.st⟩
/-- a new object, told or not -/
theorem upd_stp {p : Addr} {o : HO} (hp : H p = none) : Stp H M (upd H p o) M := fun a u e n => ⟨by rw [upd_ne (ne_of_none e hp)]; exact e, n⟩
theorem mset_stp {p : Addr} {o : HO} {m : MO} (hp : H p = none) : Stp H M (upd H p o) (mset M p m) := fun a u e n => by
  have ne : a ≠ p := ne_of_none e hp
  exact ⟨by rw [upd_ne ne]; exact e, by rw [mset_ne ne]; exact n⟩
theorem RM.free (r : RM C H M) {p : Addr} (hp : H p = none) : M p = none := by
  cases e : M p with
  | none => rfl
  | some o =>
    obtain ⟨u, hu, _⟩ := r p o e
    rw [hp] at hu; cases hu
theorem tupK_new {p : Addr} {o : HO} (hp : H p = none) : TupK H (upd H p o) := ⟨fun a xs h => by
  rcases h with h | ⟨ob, h⟩
  · exact .inl (by rw [upd_ne (ne_of_none h hp)]; exact h)
  · exact .inr ⟨ob, by rw [upd_ne (ne_of_none h hp)]; exact h⟩, fun a ob xs h => by rw [upd_ne (ne_of_none h hp)]; exact h⟩
theorem RM.new0 (r : RM C H M) {p : Addr} {o : HO} (hp : H p = none) : RM C (upd H p o) M := fun a m e => by
  obtain ⟨u, hu, ro⟩ := r a m e
  exact ⟨u, by rw [upd_ne (ne_of_none hu hp)]; exact hu, ro.keep (tupK_new hp)⟩
theorem RM.new (r : RM C H M) {p : Addr} {o : HO} {m : MO} (hp : H p = none) (ro : RO C (upd H p o) p m o) : RM C (upd H p o) (mset M p m) := fun a m' e => by
  by_cases h : a = p
  · subst h
    rw [mset_same] at e; cases e
    exact ⟨o, upd_same, ro⟩
  · rw [mset_ne h] at e
    obtain ⟨u, hu, q⟩ := r a m' e
    exact ⟨u, by rw [upd_ne h]; exact hu, q.keep (tupK_new hp)⟩
/-- an object that is told is written: it was no tuple, and no frozen thing of one -/
theorem tupK_set {p : Addr} {o u : HO} (hu : H p = some u) (h1 : ∀ xs, u ≠ .tup xs) (h2 : ∀ ob xs, u ≠ .frz ob (.tup xs)) (h3 : ∀ ob xs, u ≠ .frz ob (.lst xs)) : TupK H (upd H p o) := ⟨fun a xs h => by
  rcases h with h | ⟨ob, h⟩
  · have ne : a ≠ p := by rintro rfl; rw [h] at hu; cases hu; exact h1 _ rfl
    exact .inl (by rw [upd_ne ne]; exact h)
  · have ne : a ≠ p := by rintro rfl; rw [h] at hu; cases hu; exact h2 _ _ rfl
    exact .inr ⟨ob, by rw [upd_ne ne]; exact h⟩, fun a ob xs h => by
  have ne : a ≠ p := by rintro rfl; rw [h] at hu; cases hu; exact h3 _ _ rfl
  rw [upd_ne ne]; exact h⟩
theorem RM.tupKw (r : RM C H M) {p : Addr} {m : MO} {o : HO} (hm : M p = some m) : TupK H (upd H p o) := by
  obtain ⟨u, hu, ro⟩ := r p m hm
  refine tupK_set hu (fun xs e => ?_) (fun ob xs e => ?_) fun ob xs e => ?_
  · rw [e] at ro; exact ro.notup
  · rw [e] at ro; exact ro.nofrzt
  · rw [e] at ro; exact ro.nofrzl
theorem RM.write (r : RM C H M) {p : Addr} {m m' : MO} {o : HO} (hm : M p = some m) (ro : RO C (upd H p o) p m' o) : RM C (upd H p o) (mset M p m') := fun a m2 e => by
  by_cases h : a = p
  · subst h
    rw [mset_same] at e; cases e
    exact ⟨o, upd_same, ro⟩
  · rw [mset_ne h] at e
    obtain ⟨u, hu, q⟩ := r a m2 e
    exact ⟨u, by rw [upd_ne h]; exact hu, q.keep (r.tupKw hm)⟩
theorem write_stp {p : Addr} {m m' : MO} {o : HO} (hm : M p = some m) : Stp H M (upd H p o) (mset M p m') := fun a u e n => by
  have ne : a ≠ p := by rintro rfl; rw [hm] at n; cases n
  exact ⟨by rw [upd_ne ne]; exact e, by rw [mset_ne ne]; exact n⟩
theorem RM.lst (r : RM C H M) {a : Addr} {ds : List D} (h : M a = some (.lst ds)) : ∃ xs, H a = some (.lst xs) ∧ RDs C H ds xs := by
  obtain ⟨u, hu, ro⟩ := r a _ h
  cases u with
  | lst xs => exact ⟨xs, hu, ro⟩
  | _ => exact ro.elim
theorem RM.ins (r : RM C H M) {a : Addr} {c : Nat} {fs : List (Str × D)} (h : M a = some (.ins c fs)) : ∃ dx gs, H a = some (.ins (C.ca c) dx gs) ∧ Paired (fun (p : Str × D) (q : Str × V) => p.1 = q.1 ∧ RD C H p.2 q.2) fs gs := by
  obtain ⟨u, hu, ro⟩ := r a _ h
  cases u with
  | ins B dx gs =>
    obtain ⟨e, p⟩ := ro
    exact ⟨dx, gs, by rw [e]; exact hu, p⟩
  | _ => exact ro.elim
end
end L3
end
section
set_option autoImplicit false
set_option linter.all false
set_option maxRecDepth 100000
/-! L3: operations by values -/
namespace L3
open PySem L2

section
variable {C : Ct} {H : Hp} {h : Heap}
/-! ### keys -/
mutual
theorem RD.is (ok : HOk C.P C.w H h) (kin : C.K.In h) : ∀ {d : D} {v : V} {u : Value}, RD C H d v → RelV v u → d.pure = true → NestedIs h d.key u
  | .non, v, u, r, q, _ => by rw [show v = .non from r] at q; cases q; exact .none
  | .bl b, v, u, r, q, _ => by rw [show v = .bl b from r] at q; cases q; exact .bool rfl
  | .int i, v, u, r, q, _ => by rw [show v = .int i from r] at q; obtain ⟨t, rfl⟩ := q; exact .int i t
  | .str x, v, u, r, q, _ => by rw [show v = .str x from r] at q; obtain ⟨t, rfl⟩ := q; exact .text x t
  | .tup ds, v, u, r, q, p => by
    obtain ⟨a, xs, rfl, hq, hs⟩ := r
    cases q
    rcases hq with hq | ⟨o, its, n, hk, hc, hd, hz, rv⟩
    · obtain ⟨z, its, rv, o, ho, hc, n, hd⟩ := hq.ok ok
      exact .tup ho hc hd (by simpa using RDs.is ok kin hs rv p)
    · exact .tup (kin a o hk) hc hd (RDs.is ok kin hs rv p)
  | .ref _, _, _, _, _, p => absurd p Bool.false_ne_true
  | .exn _ _, _, _, _, _, p => absurd p Bool.false_ne_true
  | .kl _, _, _, _, _, p => absurd p Bool.false_ne_true
theorem RDs.is (ok : HOk C.P C.w H h) (kin : C.K.In h) : ∀ {ds : List D} {xs : List V} {us : List Value}, RDs C H ds xs → Vals xs us → D.pures ds = true → NestedAll h (D.keys ds) us
  | [], xs, us, r, q, _ => by rw [show xs = [] from r] at q; cases q; exact .nil
  | d :: ds, xs, us, r, q, p => by
    obtain ⟨x, l, rfl, h1, h2⟩ := r
    cases q with
    | cons q1 q2 =>
      have p' : (d.pure && D.pures ds) = true := p
      rw [Bool.and_eq_true] at p'
      exact .cons (RD.is ok kin h1 q1 p'.1) (RDs.is ok kin h2 q2 p'.2)
end
/-! ### data -/
end

open SeqAt in
theorem rcKey {A : Around} {s : Shared} : ∀ (x y : NestedKey) (a b : Value), NestedIs s.heap x a → NestedIs s.heap y b → A.units + min x.depth y.depth < cLine → RcAt A s a b (NestedKey.beq x y) := by
  intro x y a b ra rb hu
  cases ra with
  | none => cases rb with
    | none => exact RcAt.none_none
    | @bool d i e => exact RcAt.none_bool d
    | int y u => exact RcAt.none_int y u
    | text y u => exact RcAt.none_str y u
    | tup k1 k2 k3 k4 => exact RcAt.none_tuple ⟨_, k1, k2, _, k3⟩ (room_here hu)
  | @bool c i e =>
    subst e
    cases rb with
    | none => exact RcAt.bool_none c
    | @bool d i e =>
      subst e
      have : NestedKey.beq (.num (if c = true then 1 else 0)) (.num (if d = true then 1 else 0)) = (c == d) := by cases c <;> cases d <;> rfl
      rw [this]; exact RcAt.bool_bool c d
    | int y u =>
      have : NestedKey.beq (.num (if c = true then 1 else 0)) (.num y) = ((if c then 1 else 0) == y) := by (simp only [NestedKey.beq]; rw [Bool.eq_iff_iff]; simp)
      rw [this]; exact RcAt.bool_int c y u
    | text y u => exact RcAt.bool_str c y u
    | tup k1 k2 k3 k4 => exact RcAt.bool_tuple c ⟨_, k1, k2, _, k3⟩ (room_here hu)
  | int x t => cases rb with
    | none => exact RcAt.int_none x t
    | @bool d i e =>
      subst e
      have : NestedKey.beq (.num x) (.num (if d = true then 1 else 0)) = (x == (if d then 1 else 0)) := by (simp only [NestedKey.beq]; rw [Bool.eq_iff_iff]; simp)
      rw [this]; exact RcAt.int_bool x t d
    | int y u =>
      have : NestedKey.beq (.num x) (.num y) = (x == y) := by (simp only [NestedKey.beq]; rw [Bool.eq_iff_iff]; simp)
      rw [this]; exact RcAt.int_int x t y u
    | text y u => exact RcAt.int_str x t y u
    | tup k1 k2 k3 k4 => exact RcAt.int_tuple x t ⟨_, k1, k2, _, k3⟩ (room_here hu)
  | text x t => cases rb with
    | none => exact RcAt.str_none x t
    | @bool d i e => exact RcAt.str_bool x t d
    | int y u => exact RcAt.str_int x t y u
    | text y u =>
      have : NestedKey.beq (.text x) (.text y) = (x == y) := by (simp only [NestedKey.beq]; rw [Bool.eq_iff_iff]; simp)
      rw [this]; exact RcAt.str_str x t y u
    | tup k1 k2 k3 k4 => exact RcAt.str_tuple x t ⟨_, k1, k2, _, k3⟩ (room_here hu)
  | @tup l o vs n xs h1 h2 h3 h4 =>
    have hl : s.heap.IsTuple l vs := ⟨_, h1, h2, _, h3⟩
    cases rb with
    | none => exact RcAt.tuple_none hl (room_here hu)
    | @bool d i e => exact RcAt.tuple_bool d hl (room_here hu)
    | int y u => exact RcAt.tuple_int y u hl (room_here hu)
    | text y u => exact RcAt.tuple_str y u hl (room_here hu)
    | @tup l' o' vs' n' ys k1 k2 k3 k4 =>
      have hl' : s.heap.IsTuple l' vs' := ⟨_, k1, k2, _, k3⟩
      have n1 : vs.size = xs.length := by simpa using NestedAll.length _ _ h4
      have n2 : vs'.size = ys.length := by simpa using NestedAll.length _ _ k4
      show RcAt A s (.ref l) (.ref l') (NestedKey.beqAll xs ys)
      rw [← beqAll_eq xs ys, ← n1, ← n2]
      refine RcAt.tuples hl hl' (room_here hu) fun j j1 j2 => ?_
      have := eqAt_keys xs ys A.in1 s vs.toList vs'.toList h4 k4 (room_in hu) j (by simpa using j1) (by simpa using j2)
      simpa using this
open SeqAt in
theorem rcNeKey {A : Around} {s : Shared} : ∀ (x y : NestedKey) (a b : Value), NestedIs s.heap x a → NestedIs s.heap y b → A.units + min x.depth y.depth < cLine → RcNeAt A s a b (!NestedKey.beq x y) := by
  intro x y a b ra rb hu
  cases ra with
  | none => cases rb with
    | none => exact RcNeAt.none_none
    | @bool d i e => exact RcNeAt.none_bool d
    | int y u => exact RcNeAt.none_int y u
    | text y u => exact RcNeAt.none_str y u
    | tup k1 k2 k3 k4 => exact RcNeAt.none_tuple ⟨_, k1, k2, _, k3⟩ (room_here hu)
  | @bool c i e =>
    subst e
    cases rb with
    | none => exact RcNeAt.bool_none c
    | @bool d i e =>
      subst e
      have : NestedKey.beq (.num (if c = true then 1 else 0)) (.num (if d = true then 1 else 0)) = (c == d) := by cases c <;> cases d <;> rfl
      rw [this]; exact RcNeAt.bool_bool c d
    | int y u =>
      have : NestedKey.beq (.num (if c = true then 1 else 0)) (.num y) = ((if c then 1 else 0) == y) := by (simp only [NestedKey.beq]; rw [Bool.eq_iff_iff]; simp)
      rw [this]; exact RcNeAt.bool_int c y u
    | text y u => exact RcNeAt.bool_str c y u
    | tup k1 k2 k3 k4 => exact RcNeAt.bool_tuple c ⟨_, k1, k2, _, k3⟩ (room_here hu)
  | int x t => cases rb with
    | none => exact RcNeAt.int_none x t
    | @bool d i e =>
      subst e
      have : NestedKey.beq (.num x) (.num (if d = true then 1 else 0)) = (x == (if d then 1 else 0)) := by (simp only [NestedKey.beq]; rw [Bool.eq_iff_iff]; simp)
      rw [this]; exact RcNeAt.int_bool x t d
    | int y u =>
      have : NestedKey.beq (.num x) (.num y) = (x == y) := by (simp only [NestedKey.beq]; rw [Bool.eq_iff_iff]; simp)
      rw [this]; exact RcNeAt.int_int x t y u
    | text y u => exact RcNeAt.int_str x t y u
    | tup k1 k2 k3 k4 => exact RcNeAt.int_tuple x t ⟨_, k1, k2, _, k3⟩ (room_here hu)
  | text x t => cases rb with
    | none => exact RcNeAt.str_none x t
    | @bool d i e => exact RcNeAt.str_bool x t d
    | int y u => exact RcNeAt.str_int x t y u
    | text y u =>
      have : NestedKey.beq (.text x) (.text y) = (x == y) := by (simp only [NestedKey.beq]; rw [Bool.eq_iff_iff]; simp)
      rw [this]; exact RcNeAt.str_str x t y u
    | tup k1 k2 k3 k4 => exact RcNeAt.str_tuple x t ⟨_, k1, k2, _, k3⟩ (room_here hu)
  | @tup l o vs n xs h1 h2 h3 h4 =>
    have hl : s.heap.IsTuple l vs := ⟨_, h1, h2, _, h3⟩
    cases rb with
    | none => exact RcNeAt.tuple_none hl (room_here hu)
    | @bool d i e => exact RcNeAt.tuple_bool d hl (room_here hu)
    | int y u => exact RcNeAt.tuple_int y u hl (room_here hu)
    | text y u => exact RcNeAt.tuple_str y u hl (room_here hu)
    | @tup l' o' vs' n' ys k1 k2 k3 k4 =>
      have hl' : s.heap.IsTuple l' vs' := ⟨_, k1, k2, _, k3⟩
      have n1 : vs.size = xs.length := by simpa using NestedAll.length _ _ h4
      have n2 : vs'.size = ys.length := by simpa using NestedAll.length _ _ k4
      show RcNeAt A s (.ref l) (.ref l') (!NestedKey.beqAll xs ys)
      rw [← beqAll_eq xs ys, ← n1, ← n2]
      refine RcNeAt.tuples hl hl' (room_here hu) fun j j1 j2 => ?_
      have := eqAt_keys xs ys A.in1 s vs.toList vs'.toList h4 k4 (room_in hu) j (by simpa using j1) (by simpa using j2)
      simpa using this

section
variable {ca : Nat → Addr} {X : Cx} {M0 M : Mp} {pins : List (Addr × Obj)} {σ3 : Lo} {σ : L2.St} {H : Hp} {s : Shared}
/-- the context's own -/
abbrev ct (X : Cx) (ca : Nat → Addr) : Ct := ⟨X.prog, X.w, X.K, ca⟩
/-- what a rule by values is to reach -/
def QV (C : Ct) (H : Hp) (M : Mp) (Q : Post) : VK := fun v H' => ∃ d M', RM C H' M' ∧ Stp H M H' M' ∧ RD C H' d v ∧ Q d M'
theorem ep_of {Q : Post} (I : I3 (ct X ca) X M0 pins σ3 M σ H s) {u : Value} {s' : Shared} (h : EP X pins σ (QV (ct X ca) H M Q) u s') : EP3 (ct X ca) X M0 pins σ3 σ H M Q u s' := by
  obtain ⟨v, H', J, r, d, M', rm, st, rd, q⟩ := h
  exact ⟨d, M', v, H', I.to J rm st, r, rd, st, q⟩
theorem ep_now {Q : Post} (I : I3 (ct X ca) X M0 pins σ3 M σ H s) {s' : Shared} (J : Inv X pins σ H s') {u : Value} {v : V} {d : D} (r : RelV v u) (rd : RD (ct X ca) H d v) (q : Q d M) : EP3 (ct X ca) X M0 pins σ3 σ H M Q u s' :=
  ⟨d, M, v, H, I.same J, r, rd, Stp.refl, q⟩
theorem ep_after {Q : Post} {M1 : Mp} {H1 : Hp} {u : Value} {s' : Shared} (st : Stp H M H1 M1) (h : EP3 (ct X ca) X M0 pins σ3 σ H1 M1 Q u s') : EP3 (ct X ca) X M0 pins σ3 σ H M Q u s' := by
  obtain ⟨d, M', v, H', I, r, rd, st', q⟩ := h
  exact ⟨d, M', v, H', I, r, rd, st.trans st', q⟩
theorem qv_now {C : Ct} {Q : Post} {v : V} {d : D} (r : RM C H M) (rd : RD C H d v) (q : Q d M) : QV C H M Q v H := ⟨d, M, r, Stp.refl, rd, q⟩
theorem qv_int {C : Ct} {Q : Post} {i : Int} (r : RM C H M) (q : Q (.int i) M) : QV C H M Q (.int i) H := ⟨.int i, M, r, Stp.refl, rfl, q⟩
theorem qv_bl {C : Ct} {Q : Post} {i : Bool} (r : RM C H M) (q : Q (.bl i) M) : QV C H M Q (.bl i) H := ⟨.bl i, M, r, Stp.refl, rfl, q⟩
theorem qv_str {C : Ct} {Q : Post} {i : Str} (r : RM C H M) (q : Q (.str i) M) : QV C H M Q (.str i) H := ⟨.str i, M, r, Stp.refl, rfl, q⟩
theorem qv_non {C : Ct} {Q : Post} (r : RM C H M) (q : Q .non M) : QV C H M Q .non H := ⟨.non, M, r, Stp.refl, rfl, q⟩
theorem qv_new {C : Ct} {Q : Post} {p : Addr} {o : HO} {m : MO} (r : RM C H M) (hp : H p = none) (ro : RO C H p m o) (q : wpNew M m Q) : QV C H M Q (.ref p) (upd H p o) :=
  ⟨.ref p, mset M p m, r.new hp (ro.keep (tupK_new hp)), mset_stp hp, rfl, q p (r.free hp)⟩
/-- a new tuple -/
theorem qv_tup {C : Ct} {Q : Post} {p : Addr} {xs : List V} {ds : List D} (r : RM C H M) (hp : H p = none) (rd : RDs C H ds xs) (q : Q (.tup ds) M) : QV C H M Q (.ref p) (upd H p (.tup xs)) :=
  ⟨.tup ds, M, r.new0 hp, upd_stp hp, ⟨p, xs, rfl, .inl (.inl upd_same), RDs.keep (tupK_new hp) rd⟩, q⟩

/-- a two-place operation by values -/
def Op3 (ca : Nat → Addr) (X : Cx) (f : Value → Value → Sem Value) (w : D → D → Mp → Post → Prop) : Prop :=
  ∀ (pins : List (Addr × Obj)) (s : Shared) (σ : L2.St) (H : Hp) (M0 M : Mp) (σ3 : Lo) (x y : D) (a b : V) (v u : Value) (Q : Post), I3 (ct X ca) X M0 pins σ3 M σ H s → RelV a v → RelV b u → RD (ct X ca) H x a → RD (ct X ca) H y b → w x y M Q →
    wpAny (model X.prog X.w) X.A (f v u) (EP3 (ct X ca) X M0 pins σ3 σ H M Q) X.xe s
theorem op3_of {f : Value → Value → Sem Value} {w : D → D → Mp → Post → Prop} {r : R2} (ho : OpR X f r)
    (h : ∀ (H : Hp) (M : Mp) (x y : D) (a b : V) (Q : Post), RM (ct X ca) H M → RD (ct X ca) H x a → RD (ct X ca) H y b → w x y M Q → r a b H (QV (ct X ca) H M Q)) : Op3 ca X f w :=
  fun pins s σ H M0 M σ3 x y a b v u Q I ra rb hx hy hw => thn (ho pins s σ H a b v u _ I.inv ra rb (h H M x y a b Q I.hp hx hy hw)) fun _ _ q => ep_of I q

theorem o_sub : Op3 ca X (binaryOp .Sub) (wpBin .sub) := op3_of op_sub fun H M x y a b Q r hx hy h => by
  cases x with
  | int i => cases y with
    | int j => exact ⟨i, j, hx, hy, qv_int r h⟩
    | _ => exact h.elim
  | _ => exact h.elim
theorem o_mul : Op3 ca X (binaryOp .Mult) (wpBin .mul) := op3_of op_mul fun H M x y a b Q r hx hy h => by
  cases x with
  | int i => cases y with
    | int j => exact ⟨i, j, hx, hy, h.1, qv_int r h.2⟩
    | _ => exact h.elim
  | _ => exact h.elim
theorem o_fdiv : Op3 ca X (binaryOp .FloorDiv) (wpBin .fdiv) := op3_of op_fdiv fun H M x y a b Q r hx hy h => by
  cases x with
  | int i => cases y with
    | int j => exact ⟨i, j, hx, hy, h.1, qv_int r h.2⟩
    | _ => exact h.elim
  | _ => exact h.elim
theorem o_mod : Op3 ca X (binaryOp .Mod) (wpBin .mod) := op3_of op_mod fun H M x y a b Q r hx hy h => by
  cases x with
  | int i => cases y with
    | int j => exact ⟨i, j, hx, hy, h.1, qv_int r h.2⟩
    | _ => exact h.elim
  | _ => exact h.elim
theorem o_pow : Op3 ca X (binaryOp .Pow) (wpBin .pow) := op3_of op_pow fun H M x y a b Q r hx hy h => by
  cases x with
  | int i => cases y with
    | int j => exact ⟨i, j, hx, hy, h.1, qv_int r h.2⟩
    | _ => exact h.elim
  | _ => exact h.elim
theorem o_shl : Op3 ca X (binaryOp .LShift) (wpBin .shl) := op3_of op_shl fun H M x y a b Q r hx hy h => by
  cases x with
  | int i => cases y with
    | int j => exact ⟨i, j, hx, hy, h.1, qv_int r h.2⟩
    | _ => exact h.elim
  | _ => exact h.elim
theorem o_shr : Op3 ca X (binaryOp .RShift) (wpBin .shr) := op3_of op_shr fun H M x y a b Q r hx hy h => by
  cases x with
  | int i => cases y with
    | int j => exact ⟨i, j, hx, hy, h.1, qv_int r h.2⟩
    | _ => exact h.elim
  | _ => exact h.elim
/-- the ways of + -/
theorem op_add3 : OpR X (binaryOp .Add) (fun x y H Q => rI0 (fun i j => .int (i + j)) x y H Q ∨ (∃ i j, x = .str i ∧ y = .str j ∧ i.length + j.length ≤ sizeLine ∧ Q (.str (i ++ j)) H) ∨ rCatA X.K x y H Q ∨ rCat x y H Q) :=
  OpR.or op_add (OpR.or op_add_str (OpR.or op_catA op_cat))
theorem o_add : Op3 ca X (binaryOp .Add) (wpBin .add) := op3_of op_add3 fun H M x y a b Q r hx hy h => by
  cases x with
  | int i => cases y with
    | int j => exact .inl ⟨i, j, hx, hy, qv_int r h⟩
    | _ => exact h.elim
  | str i => cases y with
    | str j => exact .inr (.inl ⟨i, j, hx, hy, h.1, qv_str r h.2⟩)
    | _ => exact h.elim
  | tup ds => cases y with
    | tup es =>
      obtain ⟨p, xs, rfl, h1, h2⟩ := hx
      obtain ⟨q, ys, rfl, h3, h4⟩ := hy
      refine .inr (.inr (.inl ⟨p, q, xs, ys, rfl, rfl, h1, h3, by rw [← h2.length, ← h4.length]; exact h.1, fun e => ?_, fun e1 e2 => ?_, fun _ _ n hn => ?_⟩))
      · subst e
        cases ds with
        | nil => exact qv_now (d := .tup es) r ⟨q, ys, rfl, h3, h4⟩ h.2
        | cons d ds => obtain ⟨_, _, e, _⟩ := h2; cases e
      · subst e2
        cases es with
        | nil =>
          have h5 : Q (.tup (ds ++ [])) M := h.2
          rw [List.append_nil] at h5
          exact qv_now (d := .tup ds) r ⟨p, xs, rfl, h1, h2⟩ h5
        | cons d es => obtain ⟨_, _, e, _⟩ := h4; cases e
      · exact qv_tup r hn (RDs.append h2 h4) h.2
    | _ => exact h.elim
  | ref p => cases y with
    | ref q =>
      have h' : (match M p, M q with | some (.lst xs), some (.lst ys) => xs.length + ys.length ≤ sizeLine ∧ wpNew M (.lst (xs ++ ys)) Q | _, _ => False) := h
      cases e1 : M p with
      | none => rw [e1] at h'; exact h'.elim
      | some o1 => cases e2 : M q with
        | none => rw [e1, e2] at h'; cases o1 <;> exact h'.elim
        | some o2 =>
          rw [e1, e2] at h'
          cases o1 with
          | lst ds => cases o2 with
            | lst es =>
              obtain ⟨xs, g1, g2⟩ := r.lst e1
              obtain ⟨ys, g3, g4⟩ := r.lst e2
              exact .inr (.inr (.inr ⟨p, q, xs, ys, hx, hy, g1, g3, by rw [← g2.length, ← g4.length]; exact h'.1, fun n hn => qv_new r hn (m := .lst (ds ++ es)) (RDs.append g2 g4) h'.2⟩))
            | _ => exact h'.elim
          | _ => cases o2 <;> exact h'.elim
    | _ => exact h.elim
  | _ => exact h.elim
def bop : BOp → Operator
  | .add => .Add
  | .sub => .Sub
  | .mul => .Mult
  | .fdiv => .FloorDiv
  | .mod => .Mod
  | .pow => .Pow
  | .shl => .LShift
  | .shr => .RShift
theorem o_bin (o : BOp) : Op3 ca X (binaryOp (bop o)) (wpBin o) := by
  cases o with
  | add => exact o_add
  | sub => exact o_sub
  | mul => exact o_mul
  | fdiv => exact o_fdiv
  | mod => exact o_mod
  | pow => exact o_pow
  | shl => exact o_shl
  | shr => exact o_shr
/-- x op= y of a name: + and - of ints, + of texts, // of ints .. (no list, which would be changed in place) -/
theorem iop_all3 : OpR X (inplaceOp .Add) (fun x y H Q => rI0 (fun i j => .int (i + j)) x y H Q ∨ (∃ i j, x = .str i ∧ y = .str j ∧ i.length + j.length ≤ sizeLine ∧ Q (.str (i ++ j)) H)) := OpR.or iop_add iop_add_str
theorem o_inp (o : BOp) : Op3 ca X (inplaceOp (bop o)) (wpInp o) := by
  cases o with
  | add =>
    refine op3_of iop_all3 fun H M x y a b Q r hx hy h => ?_
    cases x with
    | int i => cases y with
      | int j => exact .inl ⟨i, j, hx, hy, qv_int r h⟩
      | _ => exact h.elim
    | str i => cases y with
      | str j => exact .inr ⟨i, j, hx, hy, h.1, qv_str r h.2⟩
      | _ => exact h.elim
    | _ => exact h.elim
  | sub =>
    refine op3_of iop_sub fun H M x y a b Q r hx hy h => ?_
    cases x with
    | int i => cases y with
      | int j => exact ⟨i, j, hx, hy, qv_int r h⟩
      | _ => exact h.elim
    | _ => exact h.elim
  | mul =>
    refine op3_of iop_mul fun H M x y a b Q r hx hy h => ?_
    cases x with
    | int i => cases y with
      | int j => exact ⟨i, j, hx, hy, h.1, qv_int r h.2⟩
      | _ => exact h.elim
    | _ => exact h.elim
  | fdiv =>
    refine op3_of iop_fdiv fun H M x y a b Q r hx hy h => ?_
    cases x with
    | int i => cases y with
      | int j => exact ⟨i, j, hx, hy, h.1, qv_int r h.2⟩
      | _ => exact h.elim
    | _ => exact h.elim
  | _ =>
    intro pins s σ H M0 M σ3 x y a b v u Q I ra rb hx hy h
    cases x <;> cases y <;> exact False.elim h
end
end L3
end
section
set_option autoImplicit false
set_option linter.all false
set_option maxRecDepth 100000
/-! L3: comparisons, truth, subscripts, slices, by values -/
namespace L3
open PySem L2 PyProof.Rows

section
variable {ca : Nat → Addr} {X : Cx} {M0 M : Mp} {pins : List (Addr × Obj)} {σ3 : Lo} {σ : L2.St} {H : Hp} {s : Shared}
theorem I3.ok (I : I3 (ct X ca) X M0 pins σ3 M σ H s) : HOk (ct X ca).P (ct X ca).w H s.heap := I.inv.hok
theorem I3.kin (I : I3 (ct X ca) X M0 pins σ3 M σ H s) : (ct X ca).K.In s.heap := I.inv.kIn

/-! ### data through the heap -/
mutual
theorem Deep.reads (I : I3 (ct X ca) X M0 pins σ3 M σ H s) : ∀ {d : D} {p : PyData} {v : V} {u : Value}, Deep M d p → RD (ct X ca) H d v → RelV v u → ∃ as, Reads s.heap u p as ∧ p.hasDict = false
  | _, _, v, u, .non, r, q => by rw [show v = .non from r] at q; cases q; exact ⟨_, .none, rfl⟩
  | _, _, v, u, .bl b, r, q => by rw [show v = .bl b from r] at q; cases q; exact ⟨_, .bool b, rfl⟩
  | _, _, v, u, .int i, r, q => by rw [show v = .int i from r] at q; obtain ⟨t, rfl⟩ := q; exact ⟨_, .int i t, rfl⟩
  | _, _, v, u, .str x, r, q => by rw [show v = .str x from r] at q; obtain ⟨t, rfl⟩ := q; exact ⟨_, .str x t, rfl⟩
  | _, _, v, u, .tup (ds := ds) hs, r, q => by
    obtain ⟨a, xs, rfl, hq, rs⟩ := r
    cases q
    rcases hq with hq | ⟨o, its, n, hk, hc, hd, hz, rv⟩
    · obtain ⟨z, its, rv, o, ho, hc, n, hd⟩ := hq.ok I.ok
      obtain ⟨as, h1, h2⟩ := Deeps.reads I hs rs rv
      exact ⟨_, .tuple ho hc hd (by simpa using h1), by simpa [PyData.hasDict] using h2⟩
    · obtain ⟨as, h1, h2⟩ := Deeps.reads I hs rs rv
      exact ⟨_, .tuple (I.kin a o hk) hc hd h1, by simpa [PyData.hasDict] using h2⟩
  | _, _, v, u, .lst (a := a) hm hs, r, q => by
    rw [show v = .ref a from r] at q
    cases q
    obtain ⟨xs, hx, rs⟩ := I.hp.lst hm
    obtain ⟨z, its, n, rv, e⟩ := I.ok a _ hx
    obtain ⟨as, h1, h2⟩ := Deeps.reads I hs rs rv
    exact ⟨_, .list e rfl rfl (by simpa using h1), by simpa [PyData.hasDict] using h2⟩
theorem Deeps.reads (I : I3 (ct X ca) X M0 pins σ3 M σ H s) : ∀ {ds : List D} {ps : List PyData} {vs : List V} {us : List Value}, Deeps M ds ps → RDs (ct X ca) H ds vs → Vals vs us → ∃ as, ReadsAll s.heap us ps as ∧ PyData.hasDictAll ps = false
  | _, _, vs, us, .nil, r, q => by rw [show vs = [] from r] at q; cases q; exact ⟨_, .nil, rfl⟩
  | _, _, vs, us, .cons h1 h2, r, q => by
    obtain ⟨x, l, rfl, r1, r2⟩ := r
    cases q with
    | cons q1 q2 =>
      obtain ⟨as, g1, g2⟩ := Deep.reads I h1 r1 q1
      obtain ⟨bs, g3, g4⟩ := Deeps.reads I h2 r2 q2
      exact ⟨_, .cons g1 g3, by simp [PyData.hasDictAll, g2, g4]⟩
end

/-! ### == and in -/
theorem flat_of {x : D} (h : x.flat = true) : x.pure = true ∧ x.key.depth ≤ 8 := by
  unfold D.flat at h
  rw [Bool.and_eq_true] at h
  exact ⟨h.1, of_decide_eq_true h.2⟩
theorem rc_flat {A : Around} (hu : A.units + 64 < cLine) (I : I3 (ct X ca) X M0 pins σ3 M σ H s) {x y : D} {a b : V} {v u : Value} (rx : RD (ct X ca) H x a) (ry : RD (ct X ca) H y b) (ra : RelV a v) (rb : RelV b u) (fx : x.flat = true) (fy : y.flat = true) : SeqAt.RcAt A s v u (x.eqv y) := by
  obtain ⟨px, dx⟩ := flat_of fx
  obtain ⟨py, dy⟩ := flat_of fy
  exact rcKey _ _ v u (RD.is I.ok I.kin rx ra px) (RD.is I.ok I.kin ry rb py) (by omega)
theorem rcNe_flat {A : Around} (hu : A.units + 64 < cLine) (I : I3 (ct X ca) X M0 pins σ3 M σ H s) {x y : D} {a b : V} {v u : Value} (rx : RD (ct X ca) H x a) (ry : RD (ct X ca) H y b) (ra : RelV a v) (rb : RelV b u) (fx : x.flat = true) (fy : y.flat = true) : SeqAt.RcNeAt A s v u (!x.eqv y) := by
  obtain ⟨px, dx⟩ := flat_of fx
  obtain ⟨py, dy⟩ := flat_of fy
  exact rcNeKey _ _ v u (RD.is I.ok I.kin rx ra px) (RD.is I.ok I.kin ry rb py) (by omega)
open Classical in
/-- an item's answer, by the value that stands there -/
noncomputable def eKey (h : Heap) (kx : NestedKey) (u : Value) : Bool := if ∃ k, NestedIs h k u ∧ NestedKey.beq k kx = true then true else false
theorem eKey_of {h : Heap} {k kx : NestedKey} {u : Value} (r : NestedIs h k u) : eKey h kx u = NestedKey.beq k kx := by
  unfold eKey
  cases e : NestedKey.beq k kx with
  | true => rw [if_pos ⟨k, r, e⟩]
  | false =>
    rw [if_neg]
    rintro ⟨k', r', e'⟩
    rw [NestedIs.inj _ _ _ r' r, e] at e'
    cases e'
theorem any_eKey {C : Ct} {h : Heap} (ok : HOk C.P C.w H h) (kin : C.K.In h) {x : D} : ∀ {ds : List D} {xs : List V} {us : List Value}, RDs C H ds xs → Vals xs us → (∀ d ∈ ds, d.flat = true) → us.any (eKey h x.key) = ds.any fun z => z.eqv x
  | [], xs, us, r, q, _ => by rw [show xs = [] from r] at q; cases q; rfl
  | d :: ds, xs, us, r, q, p => by
    obtain ⟨y, l, rfl, r1, r2⟩ := r
    cases q with
    | cons q1 q2 =>
      rw [List.any_cons, List.any_cons, any_eKey ok kin r2 q2 fun z hz => p z (List.mem_cons_of_mem _ hz), eKey_of (RD.is ok kin r1 q1 (flat_of (p d List.mem_cons_self)).1)]
      rfl
theorem mem_eKey {A : Around} (hu : A.units + 64 < cLine) {C : Ct} (ok : HOk C.P C.w H s.heap) (kin : C.K.In s.heap) {x : D} {v : Value} (hv : NestedIs s.heap x.key v) (hx : x.key.depth ≤ 8) : ∀ {ds : List D} {xs : List V} {us : List Value}, RDs C H ds xs → Vals xs us → (∀ d ∈ ds, d.flat = true) → ∀ u ∈ us, SeqAt.EqAt A s u v (eKey s.heap x.key u)
  | [], xs, us, r, q, _ => by rw [show xs = [] from r] at q; cases q; exact fun _ h => nomatch h
  | d :: ds, xs, us, r, q, p => by
    obtain ⟨y, l, rfl, r1, r2⟩ := r
    cases q with
    | cons q1 q2 =>
      intro u hm
      rcases List.mem_cons.mp hm with e | hm
      · rw [e]
        obtain ⟨pd, dd⟩ := flat_of (p d List.mem_cons_self)
        have hd := RD.is ok kin r1 q1 pd
        rw [eKey_of hd]
        exact eqAt_key _ _ A s _ v hd hv (by omega)
      · exact mem_eKey hu ok kin hv hx r2 q2 (fun z hz => p z (List.mem_cons_of_mem _ hz)) u hm

def cop : COp → CmpOp
  | .eq => .Eq
  | .ne => .NotEq
  | .lt => .Lt
  | .le => .LtE
  | .gt => .Gt
  | .ge => .GtE
  | .isIn => .In
  | .notIn => .NotIn
  | .is => .Is
  | .isNot => .IsNot
/-- a comparison is at its end -/
theorem ep_bl {Q : Post} (I : I3 (ct X ca) X M0 pins σ3 M σ H s) {b : Bool} {s' : Shared} (J : Inv X pins σ H s') (q : Q (.bl b) M) : EP3 (ct X ca) X M0 pins σ3 σ H M Q (.bool b) s' := ep_now (v := .bl b) (d := .bl b) I J rfl rfl q

theorem o_eq (hu : X.A.units + 64 < cLine) : Op3 ca X (compareOp .Eq) (fun x y M Q => wpEq x y M fun r => Q (.bl r) M) := by
  intro pins s σ H M0 M σ3 x y a b v u Q I ra rb hx hy h
  have flat : (x.flat = true ∧ y.flat = true) ∧ Q (.bl (x.eqv y)) M → wpAny (model X.prog X.w) X.A (compareOp .Eq v u) (EP3 (ct X ca) X M0 pins σ3 σ H M Q) X.xe s := fun ⟨⟨f1, f2⟩, q⟩ =>
    rc_flat hu I hx hy ra rb f1 f2 _ _ _ _ (ep_bl I I.inv q)
  cases x with
  | ref p => cases y with
    | ref q =>
      obtain ⟨d, e, h1, h2, sd, se, q⟩ := h
      obtain ⟨as, r1, _⟩ := h1.reads I hx ra
      obtain ⟨bs, r2, _⟩ := h2.reads I hy rb
      exact SeqAt.compareEq_shaped r1 r2 sd se hu (ep_bl I I.inv q)
    | _ => exact flat h
  | _ => exact flat h
theorem o_ne (hu : X.A.units + 64 < cLine) : Op3 ca X (compareOp .NotEq) (fun x y M Q => wpEq x y M fun r => Q (.bl (!r)) M) := by
  intro pins s σ H M0 M σ3 x y a b v u Q I ra rb hx hy h
  have flat : (x.flat = true ∧ y.flat = true) ∧ Q (.bl (!x.eqv y)) M → wpAny (model X.prog X.w) X.A (compareOp .NotEq v u) (EP3 (ct X ca) X M0 pins σ3 σ H M Q) X.xe s := fun ⟨⟨f1, f2⟩, q⟩ =>
    rcNe_flat hu I hx hy ra rb f1 f2 _ _ _ _ (ep_bl I I.inv q)
  cases x with
  | ref p => cases y with
    | ref q =>
      obtain ⟨d, e, h1, h2, sd, se, q⟩ := h
      obtain ⟨as, r1, _⟩ := h1.reads I hx ra
      obtain ⟨bs, r2, _⟩ := h2.reads I hy rb
      exact SeqAt.compareNe_shaped r1 r2 sd se hu (ep_bl I I.inv q)
    | _ => exact flat h
  | _ => exact flat h
theorem str1 {x : Str} (h : x.length = 1) : x = ⟨#[x.cps.getD 0 0]⟩ := by
  obtain ⟨cps⟩ := x
  have h' : cps.size = 1 := h
  congr 1
  apply Array.ext
  · simpa using h'
  · intro i h1 h2
    have : i = 0 := by omega
    subst this
    simp [Array.getD, h1]
theorem o_in (hu : X.A.units + 80 < cLine) : Op3 ca X (compareOp .In) (fun x y M Q => wpIn x y M fun r => Q (.bl r) M) := by
  intro pins s σ H M0 M σ3 x y a b v u Q I ra rb hx hy h
  cases y with
  | tup ds =>
    obtain ⟨⟨fx, fd⟩, q⟩ := h
    obtain ⟨p, xs, rfl, hq, rs⟩ := hy
    cases rb
    obtain ⟨its, r, pl, hz⟩ := I.inv.tuple hq
    obtain ⟨px, dx⟩ := flat_of fx
    refine SeqAt.in_tupleAt (eKey s.heap x.key) pl (fun w hw => mem_eKey (by have e : X.A.in1.units = X.A.units + 1 := rfl; omega) I.ok I.kin (RD.is I.ok I.kin hx ra px) dx rs r fd w (by simpa using hw)) (ep_bl I I.inv ?_)
    rw [show its.toArray.any (eKey s.heap x.key) = its.any (eKey s.heap x.key) by simp, any_eKey I.ok I.kin rs r fd]
    exact q
  | str z => cases x with
    | str x =>
      obtain ⟨h1, q⟩ := h
      rw [show a = .str x from hx] at ra
      rw [show b = .str z from hy] at rb
      refine thn (op_in_sign pins s σ H _ _ v u (QV (ct X ca) H M Q) I.inv ra rb ⟨x.cps.getD 0 0, z, by rw [← str1 h1], rfl, qv_bl I.hp q⟩) fun _ _ e => ep_of I e
    | _ => exact h.elim
  | ref p =>
    rw [show b = .ref p from hy] at rb
    cases rb
    have h' : (match M p with
      | some (.lst ds) => (x.flat = true ∧ (∀ d ∈ ds, d.flat = true)) ∧ Q (.bl (ds.any fun z => z.eqv x)) M
      | _ => False) := h
    cases e : M p with
    | none => rw [e] at h'; exact h'.elim
    | some o =>
      rw [e] at h'
      cases o with
      | lst ds =>
        obtain ⟨⟨fx, fd⟩, q⟩ := h'
        obtain ⟨xs, hxs, rs⟩ := I.hp.lst e
        obtain ⟨its, r, pl, hz⟩ := I.inv.list (SqL.of hxs)
        obtain ⟨px, dx⟩ := flat_of fx
        refine SeqAt.in_listAt (eKey s.heap x.key) pl.isList (fun w hw => mem_eKey (by have e : X.A.in1.units = X.A.units + 1 := rfl; omega) I.ok I.kin (RD.is I.ok I.kin hx ra px) dx rs r fd w (by simpa using hw)) (ep_bl I I.inv ?_)
        rw [show its.toArray.any (eKey s.heap x.key) = its.any (eKey s.heap x.key) by simp, any_eKey I.ok I.kin rs r fd]
        exact q
      | _ => exact h'.elim
  | _ => exact h.elim
theorem o_notIn (hu : X.A.units + 80 < cLine) : Op3 ca X (compareOp .NotIn) (fun x y M Q => wpIn x y M fun r => Q (.bl (!r)) M) := by
  intro pins s σ H M0 M σ3 x y a b v u Q I ra rb hx hy h
  cases y with
  | tup ds =>
    obtain ⟨⟨fx, fd⟩, q⟩ := h
    obtain ⟨p, xs, rfl, hq, rs⟩ := hy
    cases rb
    obtain ⟨its, r, pl, hz⟩ := I.inv.tuple hq
    obtain ⟨px, dx⟩ := flat_of fx
    refine SeqAt.notIn_tupleAt (eKey s.heap x.key) pl (fun w hw => mem_eKey (by have e : X.A.in1.units = X.A.units + 1 := rfl; omega) I.ok I.kin (RD.is I.ok I.kin hx ra px) dx rs r fd w (by simpa using hw)) (ep_bl I I.inv ?_)
    rw [show its.toArray.any (eKey s.heap x.key) = its.any (eKey s.heap x.key) by simp, any_eKey I.ok I.kin rs r fd]
    exact q
  | str z => cases x with
    | str x =>
      obtain ⟨h1, q⟩ := h
      rw [show a = .str x from hx] at ra
      rw [show b = .str z from hy] at rb
      refine thn (op_notIn_sign pins s σ H _ _ v u (QV (ct X ca) H M Q) I.inv ra rb ⟨x.cps.getD 0 0, z, by rw [← str1 h1], rfl, qv_bl I.hp q⟩) fun _ _ e => ep_of I e
    | _ => exact h.elim
  | ref p =>
    rw [show b = .ref p from hy] at rb
    cases rb
    have h' : (match M p with
      | some (.lst ds) => (x.flat = true ∧ (∀ d ∈ ds, d.flat = true)) ∧ Q (.bl (!ds.any fun z => z.eqv x)) M
      | _ => False) := h
    cases e : M p with
    | none => rw [e] at h'; exact h'.elim
    | some o =>
      rw [e] at h'
      cases o with
      | lst ds =>
        obtain ⟨⟨fx, fd⟩, q⟩ := h'
        obtain ⟨xs, hxs, rs⟩ := I.hp.lst e
        obtain ⟨its, r, pl, hz⟩ := I.inv.list (SqL.of hxs)
        obtain ⟨px, dx⟩ := flat_of fx
        refine SeqAt.notIn_listAt (eKey s.heap x.key) pl.isList (fun w hw => mem_eKey (by have e : X.A.in1.units = X.A.units + 1 := rfl; omega) I.ok I.kin (RD.is I.ok I.kin hx ra px) dx rs r fd w (by simpa using hw)) (ep_bl I I.inv ?_)
        rw [show its.toArray.any (eKey s.heap x.key) = its.any (eKey s.heap x.key) by simp, any_eKey I.ok I.kin rs r fd]
        exact q
      | _ => exact h'.elim
  | _ => exact h.elim
theorem RD.decN {C : Ct} {x : D} {v : V} (r : RD C H x v) (hx : ∀ c ds, x ≠ .exn c ds) : decide (v = .non) = x.isNon := by
  cases x with
  | non => have e : v = .non := r; subst e; rfl
  | tup ds => obtain ⟨a, xs, rfl, _⟩ := r; rfl
  | kl ds => obtain ⟨a, xs, rfl, _⟩ := r; rfl
  | exn c ds => exact absurd rfl (hx c ds)
  | bl b => have e : v = .bl b := r; subst e; rfl
  | int b => have e : v = .int b := r; subst e; rfl
  | str b => have e : v = .str b := r; subst e; rfl
  | ref b => have e : v = .ref b := r; subst e; rfl
theorem isC {x y : D} {k : Bool → Prop} (h : wpCmp .is x y M k) : (∃ a b, x = .bl a ∧ y = .bl b ∧ k (a == b)) ∨ (y = .non ∧ k x.isNon) := by
  cases y with
  | non => exact .inr ⟨rfl, by cases x <;> exact h⟩
  | bl b => cases x with
    | bl a => exact .inl ⟨a, b, rfl, rfl, h⟩
    | _ => exact h.elim
  | _ => cases x <;> exact False.elim h
theorem isNotC {x y : D} {k : Bool → Prop} (h : wpCmp .isNot x y M k) : (∃ a b, x = .bl a ∧ y = .bl b ∧ k (!(a == b))) ∨ (y = .non ∧ k (!x.isNon)) := by
  cases y with
  | non => exact .inr ⟨rfl, by cases x <;> exact h⟩
  | bl b => cases x with
    | bl a => exact .inl ⟨a, b, rfl, rfl, h⟩
    | _ => exact h.elim
  | _ => cases x <;> exact False.elim h
theorem RD.noexn {C : Ct} {x : D} {v : V} (r : RD C H x v) : ∀ c ds, x ≠ .exn c ds := fun c ds e => by
  subst e
  exact False.elim r
theorem o_is : Op3 ca X (compareOp .Is) (fun x y M Q => wpCmp .is x y M fun r => Q (.bl r) M) := by
  intro pins s σ H M0 M σ3 x y a b v u Q I ra rb hx hy h
  rcases isC h with ⟨c, d, rfl, rfl, q⟩ | ⟨rfl, q⟩
  · rw [show a = .bl c from hx] at ra
    rw [show b = .bl d from hy] at rb
    refine thn (op_isBl pins s σ H _ _ v u (QV (ct X ca) H M Q) I.inv ra rb ⟨c, d, rfl, rfl, ?_⟩) fun _ _ e => ep_of I e
    have : decide (c = d) = (c == d) := by cases c <;> cases d <;> rfl
    rw [this]
    exact qv_bl I.hp q
  · rw [show b = .non from hy] at rb
    refine thn (op_isN pins s σ H _ _ v u (QV (ct X ca) H M Q) I.inv ra rb ⟨rfl, ?_⟩) fun _ _ e => ep_of I e
    rw [hx.decN hx.noexn]
    exact qv_bl I.hp q
theorem o_isNot : Op3 ca X (compareOp .IsNot) (fun x y M Q => wpCmp .isNot x y M fun r => Q (.bl r) M) := by
  intro pins s σ H M0 M σ3 x y a b v u Q I ra rb hx hy h
  rcases isNotC h with ⟨c, d, rfl, rfl, q⟩ | ⟨rfl, q⟩
  · rw [show a = .bl c from hx] at ra
    rw [show b = .bl d from hy] at rb
    refine thn (op_notBl pins s σ H _ _ v u (QV (ct X ca) H M Q) I.inv ra rb ⟨c, d, rfl, rfl, ?_⟩) fun _ _ e => ep_of I e
    have : decide (c = d) = (c == d) := by cases c <;> cases d <;> rfl
    rw [this]
    exact qv_bl I.hp q
  · rw [show b = .non from hy] at rb
    refine thn (op_notN pins s σ H _ _ v u (QV (ct X ca) H M Q) I.inv ra rb ⟨rfl, ?_⟩) fun _ _ e => ep_of I e
    rw [hx.decN hx.noexn]
    exact qv_bl I.hp q
theorem o_lt : Op3 ca X (compareOp .Lt) (fun x y M Q => wpCmp .lt x y M fun r => Q (.bl r) M) := op3_of op_lt fun H M x y a b Q r hx hy h => by
  cases x with
  | int i => cases y with
    | int j => exact ⟨i, j, hx, hy, qv_bl r h⟩
    | _ => exact h.elim
  | _ => exact h.elim
theorem o_le : Op3 ca X (compareOp .LtE) (fun x y M Q => wpCmp .le x y M fun r => Q (.bl r) M) := op3_of op_le fun H M x y a b Q r hx hy h => by
  cases x with
  | int i => cases y with
    | int j => exact ⟨i, j, hx, hy, qv_bl r h⟩
    | _ => exact h.elim
  | _ => exact h.elim
theorem o_gt : Op3 ca X (compareOp .Gt) (fun x y M Q => wpCmp .gt x y M fun r => Q (.bl r) M) := op3_of op_gt fun H M x y a b Q r hx hy h => by
  cases x with
  | int i => cases y with
    | int j => exact ⟨i, j, hx, hy, qv_bl r h⟩
    | _ => exact h.elim
  | _ => exact h.elim
theorem o_ge : Op3 ca X (compareOp .GtE) (fun x y M Q => wpCmp .ge x y M fun r => Q (.bl r) M) := op3_of op_ge fun H M x y a b Q r hx hy h => by
  cases x with
  | int i => cases y with
    | int j => exact ⟨i, j, hx, hy, qv_bl r h⟩
    | _ => exact h.elim
  | _ => exact h.elim
theorem o_cmp (hu : X.A.units + 80 < cLine) (o : COp) : Op3 ca X (compareOp (cop o)) (fun x y M Q => wpCmp o x y M fun r => Q (.bl r) M) := by
  cases o with
  | eq => exact o_eq (by omega)
  | ne => exact o_ne (by omega)
  | lt => exact o_lt
  | le => exact o_le
  | gt => exact o_gt
  | ge => exact o_ge
  | isIn => exact o_in hu
  | notIn => exact o_notIn hu
  | is => exact o_is
  | isNot => exact o_isNot
/-! ### truth -/
theorem o_tru {x : D} {a : V} {v : Value} {k : Bool → Mp → Prop} (I : I3 (ct X ca) X M0 pins σ3 M σ H s) (ra : RelV a v) (hx : RD (ct X ca) H x a) (h : truthy x M fun b => k b M) : wpAny (model X.prog X.w) X.A (PySem.truthy v) (TP3 (ct X ca) X M0 pins σ3 σ H M k) X.xe s := by
  have fin : ∀ {b : Bool}, TruV X.K a H b → k b M → wpAny (model X.prog X.w) X.A (PySem.truthy v) (TP3 (ct X ca) X M0 pins σ3 σ H M k) X.xe s := fun {b} ht hk =>
    thn (tru_ok pins s σ H a v (fun c H' => H' = H ∧ c = b) I.inv ra ⟨b, ht, rfl, rfl⟩) fun c s' ⟨H', J, e1, e2⟩ => by
      subst e1; subst e2
      exact ⟨M, H', I.same J, Stp.refl, hk⟩
  cases x with
  | non => have e : a = .non := hx; subst e; exact fin (b := false) rfl h
  | bl b => have e : a = .bl b := hx; subst e; exact fin (b := b) rfl h
  | int i => have e : a = .int i := hx; subst e; exact fin (b := i != 0) rfl h
  | str x =>
    have e : a = .str x := hx; subst e
    refine fin (b := x.length != 0) ⟨h.1, ?_⟩ h.2
    rw [Bool.eq_iff_iff]; simp
  | tup ds =>
    obtain ⟨p, xs, rfl, hq, rs⟩ := hx
    refine fin (b := !ds.isEmpty) (.inr (.inl ⟨xs, hq, ?_⟩)) h
    have := rs.length
    cases ds <;> cases xs <;> simp_all
  | ref p =>
    have e : a = .ref p := hx; subst e
    have h' : (match M p with
      | some (.lst ds) => k (!ds.isEmpty) M
      | _ => False) := h
    cases e : M p with
    | none => rw [e] at h'; exact h'.elim
    | some o =>
      rw [e] at h'
      cases o with
      | lst ds =>
        obtain ⟨xs, hxs, rs⟩ := I.hp.lst e
        refine fin (b := !ds.isEmpty) (.inl ⟨xs, SqL.of hxs, ?_⟩) h'
        have := rs.length
        cases ds <;> cases xs <;> simp_all
      | _ => exact h'.elim
  | kl ds => exact h.elim
  | exn c ds => exact h.elim
/-! ### one place -/
theorem o_neg {x : D} {a : V} {v : Value} {Q : Post} (I : I3 (ct X ca) X M0 pins σ3 M σ H s) (ra : RelV a v) (hx : RD (ct X ca) H x a) (h : wpUn .neg x M Q) : wpAny (model X.prog X.w) X.A (unaryOp .USub v) (EP3 (ct X ca) X M0 pins σ3 σ H M Q) X.xe s := by
  cases x with
  | int i => exact thn (un_neg pins s σ H a v (QV (ct X ca) H M Q) I.inv ra ⟨i, hx, qv_int I.hp h⟩) fun _ _ e => ep_of I e
  | _ => exact h.elim
/-! ### subscripts -/
theorem atD_atI {α : Type} {ds : List D} {xs : List α} (hl : ds.length = xs.length) {i : Int} {d : D} (h : atD ds i = some d) : ∃ j : Nat, ds[j]? = some d ∧ ixN xs.length i = some j ∧ j < xs.length := by
  unfold atD at h
  by_cases h0 : 0 ≤ i
  · rw [if_pos h0] at h
    obtain ⟨hj, _⟩ := List.getElem?_eq_some_iff.mp h
    refine ⟨i.toNat, h, ?_, by omega⟩
    unfold ixN
    rw [if_pos h0, if_pos (by omega)]
  · rw [if_neg h0] at h
    by_cases h1 : 0 ≤ i + ds.length
    · rw [if_pos h1] at h
      refine ⟨(i + ds.length).toNat, h, ?_, by omega⟩
      unfold ixN
      rw [if_neg h0, if_pos (by omega), hl]
    · rw [if_neg h1] at h
      cases h
theorem o_ix {value slice : Expr} {x y : D} {a b : V} {v u : Value} {Q : Post} (I : I3 (ct X ca) X M0 pins σ3 M σ H s) (ra : RelV a v) (rb : RelV b u) (hx : RD (ct X ca) H x a) (hy : RD (ct X ca) H y b) (h : wpIx x y M Q)
    (hs : subscripted slice false v u = operate [v, u] (getItem v u)) : wpAny (model X.prog X.w) X.A (subscriptTail value slice v u) (EP3 (ct X ca) X M0 pins σ3 σ H M Q) X.xe s := by
  have at_ : ∀ {ds : List D} {xs : List V} {i : Int} {d : D}, RDs (ct X ca) H ds xs → atD ds i = some d → ∃ w, atI xs i = some w ∧ RD (ct X ca) H d w := fun {ds xs i d} rs e => by
    obtain ⟨j, h1, h2, h3⟩ := atD_atI rs.length e
    obtain ⟨w, h4, h5⟩ := rs.get h1
    exact ⟨w, by unfold atI; rw [h2]; exact h4, h5⟩
  cases x with
  | tup ds => cases y with
    | int i =>
      obtain ⟨d, e, q⟩ := h
      obtain ⟨p, xs, rfl, hq, rs⟩ := hx
      obtain ⟨w, h4, h5⟩ := at_ rs e
      exact thn (ix_tup value slice pins s σ H _ b v u (QV (ct X ca) H M Q) I.inv ra rb ⟨p, xs, i, w, rfl, hy, hq, h4, qv_now I.hp h5 q⟩ hs) fun _ _ e => ep_of I e
    | _ => exact h.elim
  | str z => cases y with
    | int i =>
      obtain ⟨c, hz, e, q⟩ := h
      obtain ⟨j, h1, h2, h3⟩ := atD_atI (xs := z.cps.toList) (by rw [List.length_map]) e
      rw [List.getElem?_map] at h1
      cases g : z.cps.toList[j]? with
      | none => rw [g] at h1; cases h1
      | some k =>
        rw [g] at h1
        cases h1
        exact thn (ix_str value slice pins s σ H a b v u (QV (ct X ca) H M Q) I.inv ra rb ⟨z, i, k, hx, hy, hz, by unfold atI; rw [h2]; exact g, qv_str I.hp q⟩ hs) fun _ _ e => ep_of I e
    | _ => exact h.elim
  | kl ds => cases y with
    | int i =>
      obtain ⟨d, e1, q⟩ := h
      obtain ⟨p, xs, rfl, hq, rs⟩ := hx
      obtain ⟨w, h4, h5⟩ := at_ rs e1
      exact thn (ix_list value slice pins s σ H _ b v u (QV (ct X ca) H M Q) I.inv ra rb ⟨p, xs, i, w, rfl, hy, hq.sq, h4, qv_now I.hp h5 q⟩ hs) fun _ _ e => ep_of I e
    | _ => exact h.elim
  | ref p =>
    have e : a = .ref p := hx; subst e
    cases e : M p with
    | none => simp only [wpIx, e] at h
    | some o =>
      cases o with
      | lst ds => cases y with
        | int i =>
          simp only [wpIx, e] at h
          obtain ⟨d, e1, q⟩ := h
          obtain ⟨xs, hxs, rs⟩ := I.hp.lst e
          obtain ⟨w, h4, h5⟩ := at_ rs e1
          exact thn (ix_list value slice pins s σ H _ b v u (QV (ct X ca) H M Q) I.inv ra rb ⟨p, xs, i, w, rfl, hy, SqL.of hxs, h4, qv_now I.hp h5 q⟩ hs) fun _ _ e => ep_of I e
        | _ => simp only [wpIx, e] at h
      | _ => simp only [wpIx, e] at h
  | _ => exact h.elim
end
end L3
end
section
set_option autoImplicit false
set_option linter.all false
set_option maxRecDepth 100000
/-! L3: built-ins and methods by values -/
namespace L3
open PySem L2 PyProof.Rows

section
variable {ca : Nat → Addr} {X : Cx} {M0 M : Mp} {pins : List (Addr × Obj)} {σ3 : Lo} {σ : L2.St} {H : Hp} {s : Shared}
/-- a call by values -/
def Fn3 (ca : Nat → Addr) (X : Cx) (f : Value) (w : List D → Mp → Post → Prop) : Prop :=
  ∀ (pins : List (Addr × Obj)) (s : Shared) (σ : L2.St) (H : Hp) (M0 M : Mp) (σ3 : Lo) (ds : List D) (vs : List V) (us : List Value) (Q : Post), I3 (ct X ca) X M0 pins σ3 M σ H s → Vals vs us → RDs (ct X ca) H ds vs → w ds M Q →
    wpAny (model X.prog X.w) X.A (call f us) (EP3 (ct X ca) X M0 pins σ3 σ H M Q) X.xe s
/-- a built-in method's call by values -/
def Mt3 (ca : Nat → Addr) (X : Cx) (id : String) (w : D → List D → Mp → Post → Prop) : Prop :=
  ∀ (pins : List (Addr × Obj)) (s : Shared) (σ : L2.St) (H : Hp) (M0 M : Mp) (σ3 : Lo) (x : D) (a : V) (v : Value) (ds : List D) (vs : List V) (us : List Value) (Q : Post), I3 (ct X ca) X M0 pins σ3 M σ H s → RelV a v → RD (ct X ca) H x a → Vals vs us → RDs (ct X ca) H ds vs → w x ds M Q →
    wpAny (model X.prog X.w) X.A (call (.builtin id) (v :: us)) (EP3 (ct X ca) X M0 pins σ3 σ H M Q) X.xe s
theorem RDs.one {C : Ct} {d : D} {vs : List V} (r : RDs C H [d] vs) : ∃ v, vs = [v] ∧ RD C H d v := by
  obtain ⟨x, l, rfl, h1, h2⟩ := r
  rw [show l = [] from h2]
  exact ⟨x, rfl, h1⟩
theorem RDs.two {C : Ct} {d e : D} {vs : List V} (r : RDs C H [d, e] vs) : ∃ v w, vs = [v, w] ∧ RD C H d v ∧ RD C H e w := by
  obtain ⟨x, l, rfl, h1, h2⟩ := r
  obtain ⟨y, rfl, h3⟩ := h2.one
  exact ⟨x, y, rfl, h1, h3⟩

theorem RDs.mk1 {C : Ct} {d : D} {v : V} (r : RD C H d v) : RDs C H [d] [v] := ⟨v, [], rfl, r, rfl⟩
theorem f_len : Fn3 ca X (.builtin "len") (wpBlt .len) := by
  intro pins s σ H M0 M σ3 ds vs us Q I rv rd h
  have go : ∀ {x : V} {n : Nat}, vs = [x] → LenV X.K x H n → Q (.int n) M → wpAny (model X.prog X.w) X.A (call (.builtin "len") us) (EP3 (ct X ca) X M0 pins σ3 σ H M Q) X.xe s := fun {x n} e hl q =>
    thn (call_len pins s σ H vs us (QV (ct X ca) H M Q) I.inv rv ⟨x, n, e, hl, qv_int I.hp q⟩) fun _ _ e => ep_of I e
  match ds, h with
  | [.tup xs], h =>
    obtain ⟨x, e, p, ys, rfl, hq, rs⟩ := rd.one
    exact go e (.inr ⟨ys, hq, rfl⟩) (by rw [← rs.length]; exact h)
  | [.kl xs], h =>
    obtain ⟨x, e, p, ys, rfl, hq, rs⟩ := rd.one
    exact go e (.inl ⟨ys, hq.sq, rfl⟩) (by rw [← rs.length]; exact h)
  | [.str x], h =>
    obtain ⟨y, e, r⟩ := rd.one
    have r' : y = .str x := r
    subst r'
    exact go e ⟨h.1, rfl⟩ h.2
  | [.ref a], h =>
    obtain ⟨y, e, r⟩ := rd.one
    have r' : y = .ref a := r
    subst r'
    cases g : M a with
    | none => simp only [wpBlt, g] at h
    | some o =>
      cases o with
      | lst xs =>
        simp only [wpBlt, g] at h
        obtain ⟨ys, hx, rs⟩ := I.hp.lst g
        exact go e (.inl ⟨ys, SqL.of hx, rfl⟩) (by rw [← rs.length]; exact h)
      | _ => simp only [wpBlt, g] at h
theorem f_int : Fn3 ca X (.type "int") (wpBlt .int) := by
  intro pins s σ H M0 M σ3 ds vs us Q I rv rd h
  match ds, h with
  | [.int i], h =>
    obtain ⟨y, e, r⟩ := rd.one
    have r' : y = .int i := r
    subst r'
    exact thn (call_int1 pins s σ H vs us (QV (ct X ca) H M Q) I.inv rv (.inl ⟨i, e, qv_int I.hp h⟩)) fun _ _ e => ep_of I e
  | [.bl b], h =>
    obtain ⟨y, e, r⟩ := rd.one
    have r' : y = .bl b := r
    subst r'
    exact thn (call_int1 pins s σ H vs us (QV (ct X ca) H M Q) I.inv rv (.inr ⟨b, e, qv_int I.hp h⟩)) fun _ _ e => ep_of I e
theorem f_repr (hg : X.A.guards = some []) (hu : X.A.units + 80 < cLine) : Fn3 ca X (.builtin "repr") (wpBlt .repr) := by
  intro pins s σ H M0 M σ3 ds vs us Q I rv rd h
  match ds, h with
  | [d], h =>
    obtain ⟨p, hd, hs, hz, hp, q⟩ := h
    obtain ⟨y, rfl, r⟩ := rd.one
    obtain ⟨u, rfl, rx⟩ := vals1 rv
    obtain ⟨as, rr, nd⟩ := hd.reads I r rx
    have fin : ∀ (h' : Heap) (t tk : Tok), (∀ b o, s.heap.get? b = some o → h'.get? b = some o) → EP3 (ct X ca) X M0 pins σ3 σ H M Q (.str p.shown t) { s with heap := h', toks := tk } := fun h' t tk k =>
      ep_now (v := .str p.shown) (d := .str p.shown) I (I.inv.kept k) ⟨_, rfl⟩ rfl q
    cases rr with
    | none => exact PySem.P.repr_of_none (fin s.heap _ _ fun _ _ e => e)
    | bool b => exact PySem.P.repr_of_bool (by simp only [PyData.shown] at fin ⊢; exact fin s.heap _ _ fun _ _ e => e)
    | int i t => exact PySem.P.repr_of_int (by simpa [PyData.showable] using hs) (by simp only [PyData.shown] at fin; exact fin s.heap _ _ fun _ _ e => e)
    | str x t => exact PySem.P.repr_of_str (by simp only [PyData.shown] at fin; exact fin s.heap _ _ fun _ _ e => e) (by simpa only [PyData.shown] using hz)
    | list h1 h2 h3 h4 => exact repr_of_reads' (.list h1 h2 h3 h4) hs (by rw [nd]; intro z; cases z) hg (by omega) (fun _ _ e => e) (fun h' u tk k => fin h' u tk k) hz
    | tuple h1 h2 h3 h4 => exact repr_of_reads' (.tuple h1 h2 h3 h4) hs (by rw [nd]; intro z; cases z) hg (by omega) (fun _ _ e => e) (fun h' u tk k => fin h' u tk k) hz
    | dict h1 h2 h3 h4 h5 => simp [PyData.hasDict] at nd
theorem f_max (hc : X.calm = true) : Fn3 ca X (.builtin "max") (wpBlt .max) := by
  intro pins s σ H M0 M σ3 ds vs us Q I rv rd h
  match ds, h with
  | [.int i, .int j], h =>
    obtain ⟨v, w, e, r1, r2⟩ := rd.two
    have e1 : v = .int i := r1
    have e2 : w = .int j := r2
    subst e1 e2
    exact thn (call_max2 hc pins s σ H vs us (QV (ct X ca) H M Q) I.inv rv ⟨i, j, e, qv_int I.hp h⟩) fun _ _ e => ep_of I e
theorem f_min (hc : X.calm = true) : Fn3 ca X (.builtin "min") (wpBlt .min) := by
  intro pins s σ H M0 M σ3 ds vs us Q I rv rd h
  match ds, h with
  | [.int i, .int j], h =>
    obtain ⟨v, w, e, r1, r2⟩ := rd.two
    have e1 : v = .int i := r1
    have e2 : w = .int j := r2
    subst e1 e2
    exact thn (call_min2 hc pins s σ H vs us (QV (ct X ca) H M Q) I.inv rv ⟨i, j, e, qv_int I.hp h⟩) fun _ _ e => ep_of I e
theorem f_abs : Fn3 ca X (.builtin "abs") (wpBlt .abs) := by
  intro pins s σ H M0 M σ3 ds vs us Q I rv rd h
  match ds, h with
  | [.int i], h =>
    obtain ⟨y, e, r⟩ := rd.one
    have r' : y = .int i := r
    subst r'
    exact thn (call_abs pins s σ H vs us (QV (ct X ca) H M Q) I.inv rv ⟨i, e, qv_int I.hp h⟩) fun _ _ e => ep_of I e
theorem f_str : Fn3 ca X (.type "str") (wpBlt .str) := by
  intro pins s σ H M0 M σ3 ds vs us Q I rv rd h
  match ds, h with
  | [.int i], h =>
    obtain ⟨y, e, r⟩ := rd.one
    have r' : y = .int i := r
    subst r'
    exact thn (call_str_int pins s σ H vs us (QV (ct X ca) H M Q) I.inv rv ⟨i, e, h.1, qv_str I.hp h.2⟩) fun _ _ e => ep_of I e
/-- a method by values -/
theorem mt3_of {id : String} {w : D → List D → Mp → Post → Prop} {r : V → List V → Hp → VK → Prop} (hm : MtR X id r)
    (h : ∀ (H : Hp) (M : Mp) (x : D) (a : V) (ds : List D) (vs : List V) (Q : Post), RM (ct X ca) H M → RD (ct X ca) H x a → RDs (ct X ca) H ds vs → w x ds M Q → r a vs H (QV (ct X ca) H M Q)) : Mt3 ca X id w :=
  fun pins s σ H M0 M σ3 x a v ds vs us Q I ra hx rv rd hw => thn (hm pins s σ H a vs v us _ I.inv ra rv (h H M x a ds vs Q I.hp hx rd hw)) fun _ _ q => ep_of I q
/-- a list is written -/
theorem qv_wr {C : Ct} {Q : Post} {a : Addr} {ds es : List D} {ys : List V} {v : V} {d : D} (r : RM C H M) (hm : M a = some (.lst ds)) (rs : RDs C H es ys) (rd : RD C H d v) (q : Q d (mset M a (.lst es))) :
    QV C H M Q v (upd H a (.lst ys)) :=
  ⟨d, mset M a (.lst es), r.write hm (RDs.keep (r.tupKw hm) rs), write_stp hm, rd.keep (r.tupKw hm), q⟩
theorem m_append : Mt3 ca X "list.append" (fun x ds M Q => rcv x M = some .lst ∧ wpMth .append x ds M Q) := mt3_of mt_append fun H M x a ds vs Q r hx hd ⟨hk, h⟩ => by
  cases x with
  | ref p =>
    have e : a = .ref p := hx; subst e
    cases g : M p with
    | none => simp only [wpMth, g] at h
    | some o =>
      cases o with
      | lst ys =>
        match ds, h with
        | [d], h =>
          simp only [wpMth, g] at h
          obtain ⟨xs, hxs, rs⟩ := r.lst g
          obtain ⟨v, rfl, rv⟩ := hd.one
          exact ⟨p, xs, v, rfl, rfl, hxs, by rw [← rs.length]; exact h.1, qv_wr r g (RDs.append rs (RDs.mk1 rv)) (show RD (ct X ca) H .non .non from rfl) h.2⟩
        | [], h => simp only [wpMth, g] at h
        | _ :: _ :: _, h => simp only [wpMth, g] at h
      | _ => simp only [rcv, g] at hk; try cases hk
  | _ => exact absurd hk (by simp [rcv])
end
end L3
end
section
set_option autoImplicit false
set_option linter.all false
set_option maxRecDepth 100000
/-! L3: the small language's preconditions are sound for expressions -/
namespace L3
open PySem L2 PyProof.Rows

/-! ### what a def promises -/
def CR3 (C : Ct) (outer : List Env) (H : Hp) (M : Mp) (s : Shared) (Q : Post) (r : Result) (s' : Shared) : Prop := match r with
  | .ok (.ret u) => CE outer C.P C.w H s (QV C H M Q) u s'
  | _ => False
structure FnG (C : Ct) (mg : Str → Option Value) (base : Heap) (k : Nat) (f : Addr) (fd : FuncData) (ps : List Str) (sp : Spec) : Prop where
  len : ∀ ds M Q X, sp ds M Q X → ds.length = ps.length
  run : ∀ (A : Around) (outer : List Env) (s : Shared) (H : Hp) (args : Args) (us : List Value) (vs : List V) (ds : List D) (M : Mp) (Q : Post) (X : Xp),
    Room k A → A.guards = some [] → Env0 C.P C.w C.K mg base A outer s H → BindsTo s fd args (ps.zip us) → Vals vs us → RDs C H ds vs → RM C H M → sp ds M Q X →
    codeAny (model C.P C.w) A (.call (.ref f) args) (CR3 C outer H M s Q) s
theorem FnG.mono {C : Ct} {mg : Str → Option Value} {base : Heap} {j k : Nat} {f : Addr} {fd : FuncData} {ps : List Str} {sp : Spec} (F : FnG C mg base j f fd ps sp) (h : j ≤ k) : FnG C mg base k f fd ps sp :=
  ⟨F.len, fun A outer s H args us vs ds M Q X hr => F.run A outer s H args us vs ds M Q X (hr.mono h)⟩

section
variable {ca : Nat → Addr} {X : Cx} {M0 M : Mp} {pins : List (Addr × Obj)} {σ3 : Lo} {σ : L2.St} {H : Hp} {s : Shared}
theorem run_fng {k : Nat} {f : Addr} {fd : FuncData} {ps : List Str} {sp : Spec} {us : List Value} {vs : List V} {ds : List D} {Q : Post} {X3 : Xp} (F : FnG (ct X ca) X.mg X.base k f fd ps sp) (hr : Room k X.A) (hg : X.A.guards = some []) (hb : Binds X.K fd ps [])
    (I : I3 (ct X ca) X M0 pins σ3 M σ H s) (r : Vals vs us) (rd : RDs (ct X ca) H ds vs) (h : sp ds M Q X3) : wpAny (model X.prog X.w) X.A (call (.ref f) us) (EP3 (ct X ca) X M0 pins σ3 σ H M Q) X.xe s := by
  have hl : (us ++ []).length = ps.length := by rw [List.append_nil, ← r.length, ← rd.length]; exact F.len _ _ _ _ h
  have hb' := hb s us I.inv.kIn hl
  rw [List.append_nil] at hb'
  refine wpAny_call (codeAny_mono (F.run X.A X.stack s H ⟨us, []⟩ us vs ds M Q X3 hr hg I.inv.env0 hb' r rd I.hp h) fun res s' hq => ?_)
  match res, hq with
  | .ok (.ret u), hq => exact ep_of I (I.inv.after hq)

/-! ### the context -/
/-- what the names of the module stand for -/
structure GOk (ca : Nat → Addr) (X : Cx) (P : Pr) (gl : List (Str × GR)) : Prop where
  fn : ∀ x i, gl.lookup x = some (.fn i) → ∃ k f fd ps, X.mg x = some (.ref f) ∧ PySem.W.keepIn X.K (.ref f) = true ∧ Binds X.K fd ps [] ∧ Room k X.A ∧ FnG (ct X ca) X.mg X.base k f fd ps (P.sp i)
  blt : ∀ x, gl.lookup x = some .blt → X.mg x = none
  con : ∀ x d, gl.lookup x = some (.con d) → ∃ u v, X.mg x = some u ∧ RelV v u ∧ ∀ H, RD (ct X ca) H d v
structure Ok3 (ca : Nat → Addr) (X : Cx) (P : Pr) (cc : CC) : Prop where
  N : cc.N = X.N
  sc : cc.sc = X.env.scope
  nd : X.N.Nodup
  g : GOk ca X P cc.gl
  hu : X.A.units + 80 < cLine
  hg : X.A.guards = some []
  hc : X.calm = true
  cell : ∀ x, X.env.scope.names.lookup x = some .cell → X.fn x = true

def SndE (ca : Nat → Addr) (X : Cx) (M0 : Mp) (P : Pr) (X3 : Xp) (e : Expr) (i : E) : Prop :=
  ∀ (pins : List (Addr × Obj)) (s : Shared) (σ : L2.St) (H : Hp) (σ3 : Lo) (M : Mp) (Q : Post), I3 (ct X ca) X M0 pins σ3 M σ H s → wpE P X3 i σ3 M Q →
    wpAny (model X.prog X.w) X.A (eval e X.env) (EP3 (ct X ca) X M0 pins σ3 σ H M Q) X.xe s
def SndEs (ca : Nat → Addr) (X : Cx) (M0 : Mp) (P : Pr) (X3 : Xp) (es : List Expr) (i : Es) : Prop :=
  ∀ (pos : Pos) (pins : List (Addr × Obj)) (s : Shared) (σ : L2.St) (H : Hp) (σ3 : Lo) (M : Mp) (Q : List D → Mp → Prop), I3 (ct X ca) X M0 pins σ3 M σ H s → wpEs P X3 i σ3 M Q →
    wpAny (model X.prog X.w) X.A (spliced (backTo pos (starEach es X.env))) (EPs3 (ct X ca) X M0 pins σ3 σ H M Q) X.xe s
def SndT (ca : Nat → Addr) (X : Cx) (M0 : Mp) (P : Pr) (X3 : Xp) (e : Expr) (i : T) : Prop :=
  ∀ (whole : Sem Value) (pins : List (Addr × Obj)) (s : Shared) (σ : L2.St) (H : Hp) (σ3 : Lo) (M : Mp) (k : Bool → Mp → Prop), (whole = eval e X.env ∨ ∃ o l p, e = .BoolOp o l p) → I3 (ct X ca) X M0 pins σ3 M σ H s → wpT P X3 i σ3 M k →
    wpAny (model X.prog X.w) X.A (isTrue e X.env whole) (TP3 (ct X ca) X M0 pins σ3 σ H M k) X.xe s

theorem findIdx_get {N : List Str} {x : Str} {i : Nat} (h : N.findIdx? (· == x) = some i) : N[i]? = some x := by
  obtain ⟨hl, he, _⟩ := List.findIdx?_eq_some_iff_getElem.mp h
  rw [List.getElem?_eq_getElem hl]
  simpa using he
theorem slot_ok {P : Pr} {cc : CC} {x : Str} {i : Nat} (ok : Ok3 ca X P cc) (h : cc.slot x = some i) : X.N[i]? = some x ∧ Vis X.env.scope x ∧ (x == ("__debug__" : Str)) = false ∧ (x == ("__classdict__" : Str)) = false := by
  unfold CC.slot at h
  rw [ok.N, ok.sc] at h
  cases e1 : (x == ("__debug__" : Str)) with
  | true => rw [e1] at h; cases h
  | false =>
    cases e2 : (x == ("__classdict__" : Str)) with
    | true => rw [e1, e2] at h; cases h
    | false =>
      rw [e1, e2] at h
      cases e : X.env.scope.names.lookup x with
      | none => rw [e] at h; cases h
      | some k =>
        rw [e] at h
        cases k with
        | «local» => exact ⟨findIdx_get h, .inl e, rfl, rfl⟩
        | cell => exact ⟨findIdx_get h, .inr (.inl e), rfl, rfl⟩
        | free => exact ⟨findIdx_get h, .inr (.inr e), rfl, rfl⟩
        | _ => cases h
theorem slotW_ok {P : Pr} {cc : CC} {x : Str} {i : Nat} (ok : Ok3 ca X P cc) (h : cc.slotW x = some i) : X.N[i]? = some x ∧ Loc X.env.scope x ∧ (X.fn x = true ∨ X.env.scope.names.lookup x = some .local) := by
  unfold CC.slotW at h
  rw [ok.N, ok.sc] at h
  cases e : X.env.scope.names.lookup x with
  | none => rw [e] at h; cases h
  | some k =>
    rw [e] at h
    cases k with
    | «local» => exact ⟨findIdx_get h, .inl e, .inr rfl⟩
    | cell => exact ⟨findIdx_get h, .inr e, .inl (ok.cell x e)⟩
    | _ => cases h
theorem glob_ok {P : Pr} {cc : CC} {x : Str} {g : GR} (ok : Ok3 ca X P cc) (h : cc.glob x = some g) : Gl X x ∧ cc.gl.lookup x = some g ∧ (x == ("__debug__" : Str)) = false ∧ x ≠ "__name__" := by
  unfold CC.glob at h
  rw [ok.sc] at h
  cases e1 : (x == ("__debug__" : Str)) with
  | true => rw [e1] at h; cases h
  | false =>
    cases e2 : (x == ("__name__" : Str)) with
    | true => rw [e1, e2] at h; cases h
    | false =>
      rw [e1, e2] at h
      cases e : X.env.scope.names.lookup x with
      | none => rw [e] at h; cases h
      | some k =>
        rw [e] at h
        cases k with
        | globalImplicit => exact ⟨e, h, rfl, by simpa using e2⟩
        | _ => cases h

variable {P : Pr} {X3 : Xp} {cc : CC}
/-! ### one rule a construct -/
theorem s_var {x : Str} {pos : Pos} {i : Nat} (ok : Ok3 ca X P cc) (h : cc.slot x = some i) : SndE ca X M0 P X3 (.Name x pos) (.var i) := by
  intro pins s σ H σ3 M Q I hw
  obtain ⟨hN, hv, hd, hcd⟩ := slot_ok ok h
  obtain ⟨d, e, q⟩ := hw
  obtain ⟨v, ev, rd⟩ := I.lo.2 i d e
  exact thn ((pe_var hN hv hd hcd).run pins s σ H (QV (ct X ca) H M Q) I.inv ⟨v, ev, qv_now I.hp rd q⟩) fun _ _ e => ep_of I e
theorem s_con {x : Str} {pos : Pos} {d : D} (ok : Ok3 ca X P cc) (h : cc.glob x = some (.con d)) : SndE ca X M0 P X3 (.Name x pos) (.con d) := by
  intro pins s σ H σ3 M Q I hw
  obtain ⟨hg, hl, hd, _⟩ := glob_ok ok h
  obtain ⟨u, v, hm, rv, rd⟩ := ok.g.con x d hl
  exact ld_glob I.inv hg hm (ep_now I I.inv rv (rd H) hw) hd
theorem s_int {i : Int} {j : Nat} {pos : Pos} : SndE ca X M0 P X3 (.Constant (.int i) j pos) (.int i) := fun pins s σ H σ3 M Q I hw =>
  thn (pe_int.run pins s σ H (QV (ct X ca) H M Q) I.inv (qv_int I.hp hw)) fun _ _ e => ep_of I e
theorem s_bl {i : Bool} {j : Nat} {pos : Pos} : SndE ca X M0 P X3 (.Constant (.bool i) j pos) (.bl i) := fun pins s σ H σ3 M Q I hw =>
  thn (pe_bl.run pins s σ H (QV (ct X ca) H M Q) I.inv (qv_bl I.hp hw)) fun _ _ e => ep_of I e
theorem s_str {i : Str} {j : Nat} {pos : Pos} : SndE ca X M0 P X3 (.Constant (.str i) j pos) (.str i) := fun pins s σ H σ3 M Q I hw =>
  thn (pe_str.run pins s σ H (QV (ct X ca) H M Q) I.inv (qv_str I.hp hw)) fun _ _ e => ep_of I e
theorem s_non {j : Nat} {pos : Pos} : SndE ca X M0 P X3 (.Constant .none j pos) .non := fun pins s σ H σ3 M Q I hw =>
  thn (pe_non.run pins s σ H (QV (ct X ca) H M Q) I.inv (qv_non I.hp hw)) fun _ _ e => ep_of I e
/-- two in a row -/
theorem two {a b : Expr} {ia ib : E} (ha : SndE ca X M0 P X3 a ia) (hb : SndE ca X M0 P X3 b ib) {R : D → D → Mp → Prop} (I : I3 (ct X ca) X M0 pins σ3 M σ H s)
    (hw : wpE P X3 ia σ3 M fun x M1 => wpE P X3 ib σ3 M1 fun y M2 => R x y M2) {α : Type} {F : Value → Value → Sem α} {Z : α → Shared → Prop}
    (h : ∀ (v u : Value) (s2 : Shared) (x y : D) (av bv : V) (M2 : Mp) (H2 : Hp), I3 (ct X ca) X M0 pins σ3 M2 σ H2 s2 → RelV av v → RelV bv u → RD (ct X ca) H2 x av → RD (ct X ca) H2 y bv → Stp H M H2 M2 → R x y M2 → wpAny (model X.prog X.w) X.A (F v u) Z X.xe s2) :
    wpAny (model X.prog X.w) X.A (eval a X.env) (fun v s₁ => wpAny (model X.prog X.w) X.A (eval b X.env) (fun u s₂ => wpAny (model X.prog X.w) X.A (F v u) Z X.xe s₂) X.xe s₁) X.xe s := by
  refine thn (ha pins s σ H σ3 M _ I hw) fun v s1 ⟨x, M1, av, H1, I1, rv, rd, st, hw1⟩ => ?_
  refine thn (hb pins s1 σ H1 σ3 M1 _ I1 hw1) fun u s2 ⟨y, M2, bv, H2, I2, rv2, rd2, st2, hw2⟩ => ?_
  exact h v u s2 x y av bv M2 H2 I2 rv rv2 (rd.keep (st2.tupK I1.hp)) rd2 (st.trans st2) hw2
theorem ep_st {H1 : Hp} {M1 : Mp} {Q : Post} {u : Value} {s' : Shared} (st : Stp H M H1 M1) (h : EP3 (ct X ca) X M0 pins σ3 σ H1 M1 Q u s') : EP3 (ct X ca) X M0 pins σ3 σ H M Q u s' := ep_after st h
theorem tp_st {H1 : Hp} {M1 : Mp} {k : Bool → Mp → Prop} {b : Bool} {s' : Shared} (st : Stp H M H1 M1) (h : TP3 (ct X ca) X M0 pins σ3 σ H1 M1 k b s') : TP3 (ct X ca) X M0 pins σ3 σ H M k b s' := by
  obtain ⟨M', H', I, st', q⟩ := h
  exact ⟨M', H', I, st.trans st', q⟩
theorem s_bin {a b : Expr} {ia ib : E} {pos : Pos} {o : Operator} {o' : BOp} (ho : cBop o = some o') (ha : SndE ca X M0 P X3 a ia) (hb : SndE ca X M0 P X3 b ib) : SndE ca X M0 P X3 (.BinOp a o b pos) (.bin o' ia ib) := by
  intro pins s σ H σ3 M Q I hw
  have e : o = bop o' := by
    cases o <;> cases o' <;> first | rfl | cases ho
  subst e
  refine wpAny_BinOp (two ha hb I hw fun v u s2 x y av bv M2 H2 I2 rv rv2 rd rd2 st q => ?_)
  exact thn (o_bin o' pins s2 σ H2 M0 M2 σ3 x y av bv v u Q I2 rv rv2 rd rd2 q) fun _ _ e => ep_st st e
theorem cop_c (o : CmpOp) : cop (cCop o) = o := by cases o <;> rfl
theorem s_cmp {a b : Expr} {ia ib : E} {pos : Pos} {o : CmpOp} (ok : Ok3 ca X P cc) (hm : behindInMarks o b = false) (ha : SndE ca X M0 P X3 a ia) (hb : SndE ca X M0 P X3 b ib) : SndE ca X M0 P X3 (.Compare a [o] [b] pos) (.cmp (cCop o) ia ib) := by
  intro pins s σ H σ3 M Q I hw
  refine wpAny_Compare1 (two ha hb I hw fun v u s2 x y av bv M2 H2 I2 rv rv2 rd rd2 st q => ?_) hm
  have := o_cmp ok.hu (cCop o) (ca := ca) pins s2 σ H2 M0 M2 σ3 x y av bv v u Q I2 rv rv2 rd rd2 q
  rw [cop_c] at this
  exact thn this fun _ _ e => ep_st st e
theorem s_cmpT {a b : Expr} {ia ib : E} {pos : Pos} {o : CmpOp} (ok : Ok3 ca X P cc) (hm : behindInMarks o b = false) (ha : SndE ca X M0 P X3 a ia) (hb : SndE ca X M0 P X3 b ib) : SndT ca X M0 P X3 (.Compare a [o] [b] pos) (.val (.cmp (cCop o) ia ib)) := by
  intro whole pins s σ H σ3 M k hwh I hw
  refine wpAny_isTrue_Compare1 (two ha hb I hw fun v u s2 x y av bv M2 H2 I2 rv rv2 rd rd2 st q => ?_) hm
  have := o_cmp ok.hu (cCop o) (ca := ca) pins s2 σ H2 M0 M2 σ3 x y av bv v u (fun x M1 => L3.truthy x M1 fun r => k r M1) I2 rv rv2 rd rd2 q
  rw [cop_c] at this
  exact thn this fun c s3 ⟨d, M3, v3, H3, I3', r3, rd3, st3, q3⟩ => thn (o_tru I3' r3 rd3 q3) fun _ _ e => tp_st (st.trans st3) e
theorem s_un {a : Expr} {ia : E} {pos : Pos} (ha : SndE ca X M0 P X3 a ia) : SndE ca X M0 P X3 (.UnaryOp .USub a pos) (.un .neg ia) := by
  intro pins s σ H σ3 M Q I hw
  refine UnaryOp_ (thn (ha pins s σ H σ3 M _ I hw) fun v s1 ⟨x, M1, av, H1, I1, rv, rd, st, hw1⟩ => ?_)
  exact thn (o_neg I1 rv rd hw1) fun _ _ e => ep_st st e
theorem s_not {a : Expr} {ia : E} {pos : Pos} (ha : SndE ca X M0 P X3 a ia) : SndE ca X M0 P X3 (.UnaryOp .Not a pos) (.not ia) := by
  intro pins s σ H σ3 M Q I hw
  refine UnaryOp_ (thn (ha pins s σ H σ3 M _ I hw) fun v s1 ⟨x, M1, av, H1, I1, rv, rd, st, hw1⟩ => ?_)
  refine not_of (thn (o_tru (k := fun r M1 => Q (.bl (!r)) M1) I1 rv rd hw1) fun c s2 ⟨M2, H2, I2, st2, q2⟩ => ?_)
  exact ep_st (st.trans st2) (ep_bl I2 I2.inv q2)
theorem s_and {a b : Expr} {l : List Expr} {ia ib : E} {pos : Pos} (ha : SndE ca X M0 P X3 a ia) (hb : SndE ca X M0 P X3 (.BoolOp .And (b :: l) pos) ib) : SndE ca X M0 P X3 (.BoolOp .And (a :: b :: l) pos) (.and ia ib) := by
  intro pins s σ H σ3 M Q I hw
  refine BoolOp_and (thn (ha pins s σ H σ3 M _ I hw) fun v s1 ⟨x, M1, av, H1, I1, rv, rd, st, hw1⟩ => ?_)
  refine thn (o_tru (k := fun r M1 => if r = true then wpE P X3 ib σ3 M1 Q else Q x M1) I1 rv rd hw1) fun c s2 ⟨M2, H2, I2, st2, q2⟩ => ?_
  cases c with
  | true => exact thn (hb pins s2 σ H2 σ3 M2 Q I2 q2) fun _ _ e => ep_st (st.trans st2) e
  | false => exact ⟨x, M2, av, H2, I2, rv, rd.keep (st2.tupK I1.hp), st.trans st2, q2⟩
theorem s_or {a b : Expr} {l : List Expr} {ia ib : E} {pos : Pos} (ha : SndE ca X M0 P X3 a ia) (hb : SndE ca X M0 P X3 (.BoolOp .Or (b :: l) pos) ib) : SndE ca X M0 P X3 (.BoolOp .Or (a :: b :: l) pos) (.or ia ib) := by
  intro pins s σ H σ3 M Q I hw
  refine BoolOp_or (thn (ha pins s σ H σ3 M _ I hw) fun v s1 ⟨x, M1, av, H1, I1, rv, rd, st, hw1⟩ => ?_)
  refine thn (o_tru (k := fun r M1 => if r = true then Q x M1 else wpE P X3 ib σ3 M1 Q) I1 rv rd hw1) fun c s2 ⟨M2, H2, I2, st2, q2⟩ => ?_
  cases c with
  | false => exact thn (hb pins s2 σ H2 σ3 M2 Q I2 q2) fun _ _ e => ep_st (st.trans st2) e
  | true => exact ⟨x, M2, av, H2, I2, rv, rd.keep (st2.tupK I1.hp), st.trans st2, q2⟩
theorem s_ite {c a b : Expr} {ic : T} {ia ib : E} {pos : Pos} (hc : SndT ca X M0 P X3 c ic) (ha : SndE ca X M0 P X3 a ia) (hb : SndE ca X M0 P X3 b ib) : SndE ca X M0 P X3 (.IfExp c a b pos) (.ite ic ia ib) := by
  intro pins s σ H σ3 M Q I hw
  refine wpAny_IfExp (thn (hc _ pins s σ H σ3 M _ (.inl rfl) I hw) fun d s1 ⟨M1, H1, I1, st, hw1⟩ => ?_)
  cases d with
  | true => exact thn (ha pins s1 σ H1 σ3 M1 Q I1 hw1) fun _ _ e => ep_st st e
  | false => exact thn (hb pins s1 σ H1 σ3 M1 Q I1 hw1) fun _ _ e => ep_st st e
theorem s_nil : SndEs ca X M0 P X3 [] .nil := fun pos pins s σ H σ3 M Q I hw => Calls.spliced_nil ⟨[], M, [], H, I, .nil, rfl, Stp.refl, hw⟩
theorem star_ok {e : Expr} {es : List Expr} {env : Env} (h : notStar e = true) : starEach (e :: es) env = (false, eval e env) :: starEach es env := by
  cases e <;> first | rfl | cases h
theorem s_cons {e : Expr} {es : List Expr} {ie : E} {ies : Es} (hn : notStar e = true) (ha : SndE ca X M0 P X3 e ie) (hb : SndEs ca X M0 P X3 es ies) : SndEs ca X M0 P X3 (e :: es) (.cons ie ies) := by
  intro pos pins s σ H σ3 M Q I hw
  rw [star_ok hn]
  show wpAny _ _ (spliced ((false, eval e X.env) :: backTo pos (starEach es X.env))) _ _ s
  refine Calls.spliced_cons (thn (ha pins s σ H σ3 M _ I hw) fun v s1 ⟨x, M1, av, H1, I1, rv, rd, st, hw1⟩ => ?_)
  refine thn (hb pos pins s1 σ H1 σ3 M1 _ I1 hw1) fun us s2 ⟨ds, M2, vs, H2, I2, rv2, rd2, st2, hw2⟩ => ?_
  exact ⟨x :: ds, M2, av :: vs, H2, I2, .cons rv rv2, ⟨av, vs, rfl, rd.keep (st2.tupK I1.hp), rd2⟩, st.trans st2, hw2⟩
theorem s_tup {es : List Expr} {ies : Es} {x1 : Nat} {pos : Pos} (h : SndEs ca X M0 P X3 es ies) : SndE ca X M0 P X3 (.Tuple es x1 pos) (.tup ies) := by
  intro pins s σ H σ3 M Q I hw
  refine wpAny_Tuple_spliced (thn (h pos pins s σ H σ3 M _ I hw) fun us s1 ⟨ds, M1, vs, H1, I1, rv, rd, st, hz, q⟩ => ⟨by rw [← rv.length, ← rd.length]; exact hz, ?_⟩)
  have hf : H1 s1.heap.objs.size = none := I1.inv.hok.fresh (Nat.le_refl _)
  have J : Inv X pins σ (upd H1 s1.heap.objs.size (.tup vs)) { s1 with heap := s1.heap.push { cls := .type "tuple", data := .seq us.toArray } } :=
    I1.inv.laid (t' := s1.toks) (fun b u e => Heap.get?_push_of_some _ e) (Nat.le_refl _) ⟨by rw [← rd.length]; exact hz, us, rv, ⟨_, Heap.get?_push_size _ rfl, rfl, _, rfl⟩⟩
  exact ep_st st (ep_of I1 ⟨.ref s1.heap.objs.size, _, J, rfl, qv_tup I1.hp hf rd q⟩)
theorem s_lst {es : List Expr} {ies : Es} {pos : Pos} (h : SndEs ca X M0 P X3 es ies) : SndE ca X M0 P X3 (.List es pos) (.lst ies) := by
  intro pins s σ H σ3 M Q I hw
  refine wpAny_List_spliced (thn (h pos pins s σ H σ3 M _ I hw) fun us s1 ⟨ds, M1, vs, H1, I1, rv, rd, st, hz, q⟩ => ⟨by rw [← rv.length, ← rd.length]; exact hz, ?_⟩)
  have hf : H1 s1.heap.objs.size = none := I1.inv.hok.fresh (Nat.le_refl _)
  have J : Inv X pins σ (upd H1 s1.heap.objs.size (.lst vs)) { s1 with heap := s1.heap.push { cls := .type "list", data := .seq us.toArray } } :=
    I1.inv.laid (t' := s1.toks) (fun b u e => Heap.get?_push_of_some _ e) (Nat.le_refl _) ⟨by rw [← rd.length]; exact hz, us, 0, rv, Heap.get?_push_size _ rfl⟩
  exact ep_st st (ep_of I1 ⟨.ref s1.heap.objs.size, _, J, rfl, qv_new I1.hp hf (m := .lst ds) rd q⟩)
theorem sub_ok {b : Expr} (h : notSlice b = true) (o i : Value) : subscripted b false o i = operate [o, i] (getItem o i) := by
  cases b <;> first | rfl | cases h
theorem s_ix {a b : Expr} {ia ib : E} {pos : Pos} (hn : notSlice b = true) (ha : SndE ca X M0 P X3 a ia) (hb : SndE ca X M0 P X3 b ib) : SndE ca X M0 P X3 (.Subscript a b pos) (.ix ia ib) := by
  intro pins s σ H σ3 M Q I hw
  refine Subscript_ (two ha hb I hw fun v u s2 x y av bv M2 H2 I2 rv rv2 rd rd2 st q => ?_)
  exact thn (o_ix I2 rv rv2 rd rd2 q (sub_ok hn v u)) fun _ _ e => ep_st st e
/-! ### tests -/
theorem t_val {e : Expr} {ie : E} (hp : plainTest e = true) (h : SndE ca X M0 P X3 e ie) : SndT ca X M0 P X3 e (.val ie) := by
  intro whole pins s σ H σ3 M k hwh I hw
  have hwh' : whole = eval e X.env := by
    rcases hwh with z | ⟨o, l, p, z⟩
    · exact z
    · subst z; cases hp
  subst hwh'
  have he : isTrue e X.env (eval e X.env) = (do let v ← eval e X.env; standAt e.pos; holding [v] (PySem.truthy v)) := by
    cases e <;> first | rfl | cases hp
  refine isTrue_plain (thn (h pins s σ H σ3 M _ I hw) fun v s1 ⟨x, M1, av, H1, I1, rv, rd, st, hw1⟩ => ?_) he
  exact thn (o_tru I1 rv rd hw1) fun _ _ e => tp_st st e
theorem t_not {a : Expr} {ia : T} {pos : Pos} (h : SndT ca X M0 P X3 a ia) : SndT ca X M0 P X3 (.UnaryOp .Not a pos) (.not ia) := by
  intro whole pins s σ H σ3 M k hwh I hw
  refine isTrue_not (thn (h _ pins s σ H σ3 M _ (.inl rfl) I hw) fun c s1 ⟨M1, H1, I1, st, q⟩ => ⟨M1, H1, I1, st, q⟩)
theorem t_and {a b : Expr} {l : List Expr} {ia ib : T} {pos : Pos} (ha : SndT ca X M0 P X3 a ia) (hb : SndT ca X M0 P X3 (.BoolOp .And (b :: l) pos) ib) : SndT ca X M0 P X3 (.BoolOp .And (a :: b :: l) pos) (.and ia ib) := by
  intro whole pins s σ H σ3 M k hwh I hw
  refine isTrue_and (thn (ha _ pins s σ H σ3 M _ (.inl rfl) I hw) fun c s1 ⟨M1, H1, I1, st, q⟩ => ?_)
  cases c with
  | true => exact thn (hb whole pins s1 σ H1 σ3 M1 k (.inr ⟨_, _, _, rfl⟩) I1 q) fun _ _ e => tp_st st e
  | false => exact ⟨M1, H1, I1, st, q⟩
theorem t_or {a b : Expr} {l : List Expr} {ia ib : T} {pos : Pos} (ha : SndT ca X M0 P X3 a ia) (hb : SndT ca X M0 P X3 (.BoolOp .Or (b :: l) pos) ib) : SndT ca X M0 P X3 (.BoolOp .Or (a :: b :: l) pos) (.or ia ib) := by
  intro whole pins s σ H σ3 M k hwh I hw
  refine isTrue_or (thn (ha _ pins s σ H σ3 M _ (.inl rfl) I hw) fun c s1 ⟨M1, H1, I1, st, q⟩ => ?_)
  cases c with
  | false => exact thn (hb whole pins s1 σ H1 σ3 M1 k (.inr ⟨_, _, _, rfl⟩) I1 q) fun _ _ e => tp_st st e
  | true => exact ⟨M1, H1, I1, st, q⟩
theorem t_one {o : BoolOp} {a : Expr} {ia : T} {pos : Pos} (ha : SndT ca X M0 P X3 a ia) : SndT ca X M0 P X3 (.BoolOp o [a] pos) ia := by
  intro whole pins s σ H σ3 M k hwh I hw
  cases o with
  | And =>
    refine isTrue_and (thn (ha _ pins s σ H σ3 M k (.inl rfl) I hw) fun c s1 e => ?_)
    cases c with
    | true => exact isTrue_and_nil e
    | false => exact e
  | Or =>
    refine isTrue_or (thn (ha _ pins s σ H σ3 M k (.inl rfl) I hw) fun c s1 e => ?_)
    cases c with
    | false => exact isTrue_or_nil e
    | true => exact e
end
end L3
end
section
set_option autoImplicit false
set_option linter.all false
set_option maxRecDepth 100000
/-! L3: calls -/
namespace L3
open PySem L2 PyProof.Rows

section
variable {ca : Nat → Addr} {X : Cx} {M0 M : Mp} {pins : List (Addr × Obj)} {σ3 : Lo} {σ : L2.St} {H : Hp} {s : Shared} {P : Pr} {X3 : Xp} {cc : CC}
def Plain (es : List Expr) : Prop := ∀ e ∈ es, notStar e = true
theorem plain_any {pos : Pos} {env : Env} : ∀ {es : List Expr}, Plain es → (backTo pos (starEach es env)).any (·.1) = false
  | [], _ => rfl
  | e :: es, h => by
    rw [star_ok (h e List.mem_cons_self)]
    show (false || (backTo pos (starEach es env)).any (·.1)) = false
    rw [plain_any fun x hx => h x (List.mem_cons_of_mem _ hx)]
    rfl
theorem plain_all {pos : Pos} {env : Env} : ∀ {es : List Expr}, Plain es → (backTo pos (starEach es env)).all (fun x => !x.1) = true
  | [], _ => rfl
  | e :: es, h => by
    rw [star_ok (h e List.mem_cons_self)]
    show (true && (backTo pos (starEach es env)).all (fun x => !x.1)) = true
    rw [plain_all fun x hx => h x (List.mem_cons_of_mem _ hx)]
    rfl
theorem cEs_plain : ∀ {n : Nat} {es : List Expr} {i : Es}, cEs n cc es = some i → Plain es
  | 0, _, _, h => by simp [cEs] at h
  | n + 1, [], _, _ => fun _ hx => nomatch hx
  | n + 1, e :: es, i, h => by
    cases hn : notStar e with
    | false => simp [cEs, hn] at h
    | true =>
      cases h1 : cE n cc e with
      | none => simp [cEs, hn, h1] at h
      | some e' =>
        cases h2 : cEs n cc es with
        | none => simp [cEs, hn, h1, h2] at h
        | some es' =>
          intro x hx
          rcases List.mem_cons.mp hx with rfl | hx
          · exact hn
          · exact cEs_plain h2 x hx
theorem eps_st {H1 : Hp} {M1 : Mp} {Q : List D → Mp → Prop} {u : List Value} {s' : Shared} (st : Stp H M H1 M1) (h : EPs3 (ct X ca) X M0 pins σ3 σ H1 M1 Q u s') : EPs3 (ct X ca) X M0 pins σ3 σ H M Q u s' := by
  obtain ⟨d, M', v, H', I, r, rd, st', q⟩ := h
  exact ⟨d, M', v, H', I, r, rd, st.trans st', q⟩
/-- f(..), a def of the module -/
theorem s_call {f : Str} {p pos : Pos} {i : Nat} {e : Expr} {es : List Expr} {ies : Es} (ok : Ok3 ca X P cc) (hf : cc.glob f = some (.fn i)) (hp : Plain (e :: es)) (ha : SndEs ca X M0 P X3 (e :: es) ies) : SndE ca X M0 P X3 (.Call (.Name f p) (e :: es) [] pos) (.call i ies) := by
  intro pins s σ H σ3 M Q I hw
  obtain ⟨hg, hl, hd, _⟩ := glob_ok ok hf
  obtain ⟨k, a, fd, ps, hm, hk, hb, hr, F⟩ := ok.g.fn f i hl
  refine wpAny_Call_Name_kw (ld_glob I.inv hg hm ?_ hd)
  refine PySem.W.callWith_K (h₀ := X.base) I.inv.ok.mod.kin hk (thn (ha pos pins s σ H σ3 M _ I hw) fun us s1 ⟨ds, M1, vs, H1, I1, r, rd, st, q⟩ => ⟨I1.inv.kIn, ?_⟩) (star_ok (hp e List.mem_cons_self)) (plain_any fun x hx => hp x (List.mem_cons_of_mem _ hx))
  exact thn (run_fng F hr ok.hg hb I1 r rd q) fun _ _ e => ep_st st e
theorem s_call0 {f : Str} {p pos : Pos} {i : Nat} (ok : Ok3 ca X P cc) (hf : cc.glob f = some (.fn i)) : SndE ca X M0 P X3 (.Call (.Name f p) [] [] pos) (.call i .nil) := by
  intro pins s σ H σ3 M Q I hw
  obtain ⟨hg, hl, hd, _⟩ := glob_ok ok hf
  obtain ⟨k, a, fd, ps, hm, hk, hb, hr, F⟩ := ok.g.fn f i hl
  refine wpAny_Call_Name_kw (ld_glob I.inv hg hm ?_ hd)
  exact PySem.W.callWith_K0 I.inv.kIn hk (run_fng (us := []) (vs := []) (ds := []) F hr ok.hg hb I .nil (show RDs (ct X ca) H [] [] from rfl) hw)
/-- a built-in called by its name -/
theorem s_bltF {f : Str} {id : String} {p pos : Pos} {b : Blt} {e : Expr} {es : List Expr} {ies : Es} (ok : Ok3 ca X P cc) (hf : cc.glob f = some .blt) (hv : bootBuiltins f = some (.builtin id)) (hF : Fn3 ca X (.builtin id) (wpBlt b)) (hp : Plain (e :: es)) (ha : SndEs ca X M0 P X3 (e :: es) ies) :
    SndE ca X M0 P X3 (.Call (.Name f p) (e :: es) [] pos) (.blt b ies) := by
  intro pins s σ H σ3 M Q I hw
  obtain ⟨hg, hl, hd, hn⟩ := glob_ok ok hf
  refine wpAny_Call_Name_kw (ld_blt I.inv hg (ok.g.blt f hl) hv ?_ hn hd)
  refine callWith_builtin1 (thn (ha pos pins s σ H σ3 M _ I hw) fun us s1 ⟨ds, M1, vs, H1, I1, r, rd, st, q⟩ => ?_) (star_ok (hp e List.mem_cons_self)) (plain_any fun x hx => hp x (List.mem_cons_of_mem _ hx))
  exact thn (hF pins s1 σ H1 M0 M1 σ3 ds vs us Q I1 r rd q) fun _ _ e => ep_st st e
theorem s_bltT {f : Str} {T : String} {p pos : Pos} {b : Blt} {e : Expr} {es : List Expr} {ies : Es} (ok : Ok3 ca X P cc) (hf : cc.glob f = some .blt) (hv : bootBuiltins f = some (.type T)) (hF : Fn3 ca X (.type T) (wpBlt b)) (hp : Plain (e :: es)) (ha : SndEs ca X M0 P X3 (e :: es) ies) :
    SndE ca X M0 P X3 (.Call (.Name f p) (e :: es) [] pos) (.blt b ies) := by
  intro pins s σ H σ3 M Q I hw
  obtain ⟨hg, hl, hd, hn⟩ := glob_ok ok hf
  refine wpAny_Call_Name_kw (ld_blt I.inv hg (ok.g.blt f hl) hv ?_ hn hd)
  refine callWith_type1 (thn (ha pos pins s σ H σ3 M _ I hw) fun us s1 ⟨ds, M1, vs, H1, I1, r, rd, st, q⟩ => ?_) (star_ok (hp e List.mem_cons_self)) (plain_any fun x hx => hp x (List.mem_cons_of_mem _ hx))
  exact thn (hF pins s1 σ H1 M0 M1 σ3 ds vs us Q I1 r rd q) fun _ _ e => ep_st st e
theorem ite_str {x y : Str} {α : Type} {a b : Option α} {c : α} (h : (if x == y then a else b) = some c) : (x = y ∧ a = some c) ∨ b = some c := by
  cases e : x == y with
  | true => rw [e] at h; exact .inl ⟨by simpa using e, h⟩
  | false => rw [e] at h; exact .inr h
theorem s_blt {f : Str} {p pos : Pos} {b : Blt} {e : Expr} {es : List Expr} {ies : Es} (ok : Ok3 ca X P cc) (hf : cc.glob f = some .blt) (hb : cBlt f = some b) (hp : Plain (e :: es)) (ha : SndEs ca X M0 P X3 (e :: es) ies) :
    SndE ca X M0 P X3 (.Call (.Name f p) (e :: es) [] pos) (.blt b ies) := by
  unfold cBlt at hb
  rcases ite_str hb with ⟨rfl, hb⟩ | hb
  · cases hb; exact s_bltF ok hf boot_len f_len hp ha
  rcases ite_str hb with ⟨rfl, hb⟩ | hb
  · cases hb; exact s_bltT ok hf (by decide +kernel) f_int hp ha
  rcases ite_str hb with ⟨rfl, hb⟩ | hb
  · cases hb; exact s_bltF ok hf boot_repr (f_repr ok.hg ok.hu) hp ha
  rcases ite_str hb with ⟨rfl, hb⟩ | hb
  · cases hb; exact s_bltF ok hf boot_max (f_max ok.hc) hp ha
  rcases ite_str hb with ⟨rfl, hb⟩ | hb
  · cases hb; exact s_bltF ok hf (by decide +kernel) (f_min ok.hc) hp ha
  rcases ite_str hb with ⟨rfl, hb⟩ | hb
  · cases hb; exact s_bltF ok hf (by decide +kernel) f_abs hp ha
  rcases ite_str hb with ⟨rfl, hb⟩ | hb
  · cases hb; exact s_bltT ok hf (by decide +kernel) f_str hp ha
  · cases hb
/-! ### methods of built-in types -/
theorem noSuper_ok {o : Expr} {m : Str} {env : Env} (h : noSuper o = true) : attributeBase o m env (eval o env) = eval o env := by
  unfold attributeBase
  split
  · cases h
  · rfl
structure MthOk (ca : Nat → Addr) (X : Cx) (T id : String) (m : Str) (rk : RK) (mm : Mth) : Prop where
  pa : PlainAttrs T
  slot : Slot T m id
  ty : typeOf (.builtin id) = pure (.type "method_descriptor")
  rule : Mt3 ca X id (fun x ds M Q => rcv x M = some rk ∧ wpMth mm x ds M Q)
  is : ∀ (pins : List (Addr × Obj)) (s : Shared) (σ : L2.St) (H : Hp) (M0 M : Mp) (σ3 : Lo) (x : D) (a : V) (v : Value), I3 (ct X ca) X M0 pins σ3 M σ H s → RelV a v → RD (ct X ca) H x a → rcv x M = some rk → s.TypeIs v T ∧ ∀ b, v = .ref b → ∃ ob, s.heap.get? b = some ob ∧ ob.dict = none
theorem rcv_lst {x : D} {M : Mp} (h : rcv x M = some .lst) : ∃ a ds, x = .ref a ∧ M a = some (.lst ds) := by
  cases x with
  | ref a =>
    cases e : M a with
    | none => simp only [rcv, e] at h; cases h
    | some o => cases o with
      | lst ds => exact ⟨a, ds, rfl, e⟩
      | _ => simp only [rcv, e] at h; cases h
  | _ => cases h
theorem is_lst : ∀ (pins : List (Addr × Obj)) (s : Shared) (σ : L2.St) (H : Hp) (M0 M : Mp) (σ3 : Lo) (x : D) (a : V) (v : Value), I3 (ct X ca) X M0 pins σ3 M σ H s → RelV a v → RD (ct X ca) H x a → rcv x M = some .lst → s.TypeIs v "list" ∧ ∀ b, v = .ref b → ∃ ob, s.heap.get? b = some ob ∧ ob.dict = none := by
  intro pins s σ H M0 M σ3 x a v I rv rd h
  obtain ⟨p, ds, rfl, hm⟩ := rcv_lst h
  have e : a = .ref p := rd
  subst e
  obtain ⟨xs, hx, _⟩ := I.hp.lst hm
  exact tyV_is (T := "list") (x := .ref p) I.inv rv (.inl ⟨rfl, xs, SqL.of hx⟩)
theorem mok_append : MthOk ca X "list" "list.append" "append" .lst .append := ⟨PySem.F.plainAttrs_list, PySem.F.slot_list_append, PySem.F.type_list_append, m_append, is_lst⟩
theorem mok_ok {m : Str} {mm : Mth} {r : Option RK} (hm : cMth m = some mm) (h : mok r mm = true) : ∃ rk T id, r = some rk ∧ MthOk ca X T id m rk mm := by
  unfold cMth at hm
  rcases ite_str hm with ⟨rfl, hm⟩ | hm
  · cases hm
    cases r with
    | none => cases h
    | some r => cases r with
      | lst => exact ⟨.lst, _, _, rfl, mok_append⟩
      | _ => cases h
  rcases ite_str hm with ⟨rfl, hm⟩ | hm
  · cases hm
    cases r with
    | none => cases h
    | some r => cases r <;> cases h
  rcases ite_str hm with ⟨rfl, hm⟩ | hm
  · cases hm
    cases r with
    | none => cases h
    | some r => cases r <;> cases h
  rcases ite_str hm with ⟨rfl, hm⟩ | hm
  · cases hm
    cases r with
    | none => cases h
    | some r => cases r <;> cases h
  rcases ite_str hm with ⟨rfl, hm⟩ | hm
  · cases hm
    cases r with
    | none => cases h
    | some r => cases r <;> cases h
  rcases ite_str hm with ⟨rfl, hm⟩ | hm
  · cases hm
    cases r with
    | none => cases h
    | some r => cases r <;> cases h
  rcases ite_str hm with ⟨rfl, hm⟩ | hm
  · cases hm
    cases r with
    | none => cases h
    | some r => cases r <;> cases h
  cases hm
theorem s_mth {m : Str} {mm : Mth} {o : Expr} {ap pos : Pos} {es : List Expr} {io : E} {ies : Es} (hm : cMth m = some mm) (hn : noSuper o = true) (hl : (ap.endLine == pos.line) = true) (hz : es.length < 25) (hp : Plain es) (he : es = [] → ies = .nil) (ho : SndE ca X M0 P X3 o io) (ha : SndEs ca X M0 P X3 es ies) :
    SndE ca X M0 P X3 (.Call (.Attribute o m ap) es [] pos) (.mth io mm ies) := by
  intro pins s σ H σ3 M Q I hw
  have few : ((backTo pos (starEach es X.env)).all (fun x => !x.1) && (backToKw pos (keywordEach [] X.env)).all (fun x => x.1.isSome) && decide (es.length + ([] : List Keyword).length + (if ([] : List Keyword).isEmpty then 0 else 1) < 30)) = true := by
    rw [plain_all hp]
    show (true && true && decide (es.length + 0 + 0 < 30)) = true
    simp only [Bool.and_true, Bool.true_and, decide_eq_true_eq]
    omega
  refine wpAny_Call_method_late (noSuper_ok hn) few hl rfl (thn (ho pins s σ H σ3 M _ I hw) fun v s1 ⟨x, M1, av, H1, I1, rv, rd, st, hk, hw1⟩ => ?_)
  obtain ⟨rk, T, id, hr, W⟩ := mok_ok (ca := ca) (X := X) hm hk
  obtain ⟨h1, h2⟩ := W.is pins s1 σ H1 M0 M1 σ3 x av v I1 rv rd hr
  refine ⟨T, id, W.pa, W.slot, W.ty, h1, h2, ?_⟩
  have fin : ∀ (us : List Value) (s2 : Shared), EPs3 (ct X ca) X M0 pins σ3 σ H1 M1 (fun ds M2 => rcv x M2 = rcv x M1 ∧ wpMth mm x ds M2 Q) us s2 → wpAny (model X.prog X.w) X.A (call (.builtin id) (v :: us)) (EP3 (ct X ca) X M0 pins σ3 σ H M Q) X.xe s2 := fun us s2 ⟨ds, M2, vs, H2, I2, r2, rd2, st2, hk2, q⟩ =>
    thn (W.rule pins s2 σ H2 M0 M2 σ3 x av v ds vs us Q I2 rv (rd.keep (st2.tupK I1.hp)) r2 rd2 ⟨hk2.trans hr, q⟩) fun _ _ e => ep_st (st.trans st2) e
  cases es with
  | nil =>
    rw [he rfl] at hw1
    exact Calls.callWith_builtin rfl (PySem.evalArgs_none (fin [] s1 ⟨[], M1, [], H1, I1, .nil, rfl, Stp.refl, hw1⟩))
  | cons e es =>
    have hA := ha pos pins s1 σ H1 σ3 M1 _ I1 hw1
    rw [star_ok (hp e List.mem_cons_self)] at hA ⊢
    refine Calls.callWith_builtin (by show (false || (backTo pos (starEach es X.env)).any (·.1)) = false; rw [plain_any fun x hx => hp x (List.mem_cons_of_mem _ hx)]; rfl) (Calls.evalArgs_plain ?_)
    exact thn hA fun us s2 h => fin us s2 h
end
end L3
end
section
set_option autoImplicit false
set_option linter.all false
set_option maxRecDepth 100000
/-! L3: every compiled expression is sound -/
namespace L3
open PySem L2 PyProof.Rows

section
variable {ca : Nat → Addr} {X : Cx} {M0 M : Mp} {pins : List (Addr × Obj)} {σ3 : Lo} {σ : L2.St} {H : Hp} {s : Shared} {P : Pr} {X3 : Xp} {cc : CC}
theorem two_tru {v : Value} {x : D} {av : V} {k : Bool → Mp → Prop} {Z : Bool → Shared → Prop} (I : I3 (ct X ca) X M0 pins σ3 M σ H s) (rv : RelV av v) (rd : RD (ct X ca) H x av) (h : truthy x M fun b => k b M)
    (z : ∀ b s', TP3 (ct X ca) X M0 pins σ3 σ H M k b s' → Z b s') : wpAny (model X.prog X.w) X.A (PySem.truthy v) Z X.xe s := thn (o_tru I rv rd h) z
theorem s_cmp2 {a b c : Expr} {ia ib ic : E} {pos : Pos} {o o' : CmpOp} (ok : Ok3 ca X P cc) (hm : lastMarks [o, o'] [b, c] = false) (ha : SndE ca X M0 P X3 a ia) (hb : SndE ca X M0 P X3 b ib) (hc : SndE ca X M0 P X3 c ic) :
    SndE ca X M0 P X3 (.Compare a [o, o'] [b, c] pos) (.cmp2 (cCop o) (cCop o') ia ib ic) := by
  intro pins s σ H σ3 M Q I hw
  refine Compare_chain (thn (ha pins s σ H σ3 M _ I hw) fun v s1 ⟨x, M1, av, H1, I1, rv, rd, st, hw1⟩ => chain_link (thn (hb pins s1 σ H1 σ3 M1 _ I1 hw1) fun u s2 ⟨y, M2, bv, H2, I2, rv2, rd2, st2, hw2⟩ => ?_)) hm
  have h1 := o_cmp ok.hu (cCop o) (ca := ca) pins s2 σ H2 M0 M2 σ3 x y av bv v u (fun d M3 => ∃ r, d = .bl r ∧ M3 = M2 ∧ (if r = true then wpE P X3 ic σ3 M2 fun z M3 => wpCmp (cCop o') y z M3 fun r' => Q (.bl r') M3 else Q (.bl false) M2)) I2 rv rv2 (rd.keep (st2.tupK I1.hp)) rd2
  have h2 := h1 (by
    revert hw2
    generalize hG : (fun r : Bool => if r = true then wpE P X3 ic σ3 M2 fun z M3 => wpCmp (cCop o') y z M3 fun r' => Q (.bl r') M3 else Q (.bl false) M2) = G
    intro hw2
    have : (fun r : Bool => ∃ r', D.bl r = .bl r' ∧ M2 = M2 ∧ G r') = G := by
      funext r
      apply propext
      constructor
      · rintro ⟨r', e, _, g⟩; cases e; exact g
      · intro g; exact ⟨r, rfl, rfl, g⟩
    have e2 : (fun r : Bool => ∃ r', D.bl r = .bl r' ∧ M2 = M2 ∧ (if r' = true then wpE P X3 ic σ3 M2 fun z M3 => wpCmp (cCop o') y z M3 fun r' => Q (.bl r') M3 else Q (.bl false) M2)) = G := by
      rw [← this]; funext r; rw [← hG]
    show wpCmp (cCop o) x y M2 _
    rw [e2]
    exact hw2)
  rw [cop_c] at h2
  refine thn h2 fun d s3 ⟨dd, M3, v3, H3, I3', r3, rd3, st3, r, e1, e2, q3⟩ => ?_
  subst e1; subst e2
  have e3 : v3 = .bl r := rd3
  subst e3
  cases r3
  refine wpAny_truthy_bool ?_
  cases r with
  | false => exact ite_ff (ep_st (st.trans (st2.trans st3)) (ep_bl I3' I3'.inv q3))
  | true =>
    refine ite_tt (chain_last (thn (hc pins s3 σ H3 σ3 M3 _ I3' q3) fun w s4 ⟨z, M4, cv, H4, I4, rv4, rd4, st4, q4⟩ => ?_))
    have h5 := o_cmp ok.hu (cCop o') (ca := ca) pins s4 σ H4 M0 M4 σ3 y z bv cv u w Q I4 rv2 rv4 ((rd2.keep (st3.tupK I2.hp)).keep (st4.tupK I3'.hp)) rd4 q4
    rw [cop_c] at h5
    exact thn h5 fun _ _ e => ep_st ((st.trans (st2.trans st3)).trans st4) e
theorem s_cmp2T {a b c : Expr} {ia ib ic : E} {pos : Pos} {o o' : CmpOp} (ok : Ok3 ca X P cc) (hm : lastMarks [o, o'] [b, c] = false) (ha : SndE ca X M0 P X3 a ia) (hb : SndE ca X M0 P X3 b ib) (hc : SndE ca X M0 P X3 c ic) :
    SndT ca X M0 P X3 (.Compare a [o, o'] [b, c] pos) (.val (.cmp2 (cCop o) (cCop o') ia ib ic)) := by
  intro whole pins s σ H σ3 M k _ I hw
  refine isTrue_chain (thn (ha pins s σ H σ3 M _ I hw) fun v s1 ⟨x, M1, av, H1, I1, rv, rd, st, hw1⟩ => test_link (thn (hb pins s1 σ H1 σ3 M1 _ I1 hw1) fun u s2 ⟨y, M2, bv, H2, I2, rv2, rd2, st2, hw2⟩ => ?_)) hm
  let G : Bool → Prop := fun r : Bool => if r = true then wpE P X3 ic σ3 M2 fun z M3 => wpCmp (cCop o') y z M3 fun r' => truthy (.bl r') M3 fun b => k b M3 else truthy (.bl false) M2 fun b => k b M2
  have hw3 : wpCmp (cCop o) x y M2 G := hw2
  have h1 := o_cmp ok.hu (cCop o) (ca := ca) pins s2 σ H2 M0 M2 σ3 x y av bv v u (fun d M3 => ∃ r, d = .bl r ∧ M3 = M2 ∧ G r) I2 rv rv2 (rd.keep (st2.tupK I1.hp)) rd2
  have h2 := h1 (by
    have e2 : (fun r : Bool => ∃ r', D.bl r = .bl r' ∧ M2 = M2 ∧ G r') = G := by
      funext r
      apply propext
      constructor
      · rintro ⟨r', e, _, g⟩; cases e; exact g
      · intro g; exact ⟨r, rfl, rfl, g⟩
    show wpCmp (cCop o) x y M2 _
    rw [e2]
    exact hw3)
  rw [cop_c] at h2
  refine thn h2 fun d s3 ⟨dd, M3, v3, H3, I3', r3, rd3, st3, r, e1, e2, q3⟩ => ?_
  subst e1; subst e2
  have e3 : v3 = .bl r := rd3
  subst e3
  cases r3
  refine wpAny_truthy_bool ?_
  cases r with
  | false => exact ite_ff ⟨M3, H3, I3', st.trans (st2.trans st3), q3⟩
  | true =>
    refine ite_tt (test_last (thn (hc pins s3 σ H3 σ3 M3 _ I3' q3) fun w s4 ⟨z, M4, cv, H4, I4, rv4, rd4, st4, q4⟩ => ?_))
    have h5 := o_cmp ok.hu (cCop o') (ca := ca) pins s4 σ H4 M0 M4 σ3 y z bv cv u w (fun d M5 => truthy d M5 fun b => k b M5) I4 rv2 rv4 ((rd2.keep (st3.tupK I2.hp)).keep (st4.tupK I3'.hp)) rd4 q4
    rw [cop_c] at h5
    exact thn h5 fun c s5 ⟨d5, M5, v5, H5, I5, r5, rd5, st5, q5⟩ => thn (o_tru I5 r5 rd5 q5) fun _ _ e => tp_st ((((st.trans (st2.trans st3)).trans st4)).trans st5) e
theorem if_none {b : Bool} {α : Type} {a : Option α} {c : α} (h : (if b = true then none else a) = some c) : b = false ∧ a = some c := by
  cases b with
  | true => cases h
  | false => exact ⟨rfl, h⟩
theorem if_some {b : Bool} {α : Type} {a : Option α} {c : α} (h : (if b = true then a else none) = some c) : b = true ∧ a = some c := by
  cases b with
  | true => exact ⟨rfl, h⟩
  | false => cases h
end

def AllE (n : Nat) : Prop := ∀ (ca : Nat → Addr) (X : Cx) (M0 : Mp) (P : Pr) (X3 : Xp) (cc : CC), Ok3 ca X P cc →
  (∀ (e : Expr) (i : E), cE n cc e = some i → SndE ca X M0 P X3 e i) ∧ (∀ (es : List Expr) (i : Es), cEs n cc es = some i → SndEs ca X M0 P X3 es i) ∧ (∀ (e : Expr) (i : T), cT n cc e = some i → SndT ca X M0 P X3 e i)
theorem allE : ∀ n, AllE n
  | 0 => fun ca X M0 P X3 cc ok => ⟨fun e i h => by simp [cE] at h, fun e i h => by simp [cEs] at h, fun e i h => by simp [cT] at h⟩
  | n + 1 => fun ca X M0 P X3 cc ok => by
    obtain ⟨hE, hEs, hT⟩ := allE n ca X M0 P X3 cc ok
    refine ⟨fun e i h => ?_, fun es i h => ?_, fun e i h => ?_⟩
    · unfold cE at h
      split at h
      · -- a name
        split at h
        · cases h; exact s_var ok (by assumption)
        · split at h
          · cases h; exact s_con ok (by assumption)
          · cases h
      · split at h
        · cases h; exact s_int
        · cases h; exact s_bl
        · cases h; exact s_str
        · cases h; exact s_non
        · cases h
      · split at h
        · rename_i h1 h2 h3
          cases h; exact s_bin h1 (hE _ _ h2) (hE _ _ h3)
        · cases h
      · split at h
        · rename_i h1
          cases h; exact s_not (hE _ _ h1)
        · cases h
      · split at h
        · rename_i h1
          cases h; exact s_un (hE _ _ h1)
        · cases h
      · obtain ⟨hm, h⟩ := if_none h
        split at h
        · rename_i h1 h2
          cases h; exact s_cmp ok hm (hE _ _ h1) (hE _ _ h2)
        · cases h
      · obtain ⟨hm, h⟩ := if_none h
        split at h
        · rename_i h1 h2 h3
          cases h; exact s_cmp2 ok hm (hE _ _ h1) (hE _ _ h2) (hE _ _ h3)
        · cases h
      · exact fun pins s σ H σ3 M Q I hw => BoolOp_one (hE _ _ h pins s σ H σ3 M Q I hw)
      · split at h
        · rename_i h1 h2
          cases h; exact s_and (hE _ _ h1) (hE _ _ h2)
        · cases h
      · split at h
        · rename_i h1 h2
          cases h; exact s_or (hE _ _ h1) (hE _ _ h2)
        · cases h
      · split at h
        · rename_i h1 h2 h3
          cases h; exact s_ite (hT _ _ h1) (hE _ _ h2) (hE _ _ h3)
        · cases h
      · split at h
        · rename_i h1
          cases h; exact s_tup (hEs _ _ h1)
        · cases h
      · split at h
        · rename_i h1
          cases h; exact s_lst (hEs _ _ h1)
        · cases h
      · obtain ⟨hm, h⟩ := if_some h
        split at h
        · rename_i h1 h2
          cases h; exact s_ix hm (hE _ _ h1) (hE _ _ h2)
        · cases h
      · -- a call by name
        split at h
        · rename_i f p es pos _ _ i' es' h1 h2
          cases h
          cases es with
          | nil =>
            have : es' = .nil := by
              cases n with
              | zero => simp [cEs] at h2
              | succ n => simpa [cEs] using h2.symm
            subst this
            exact s_call0 ok h1
          | cons e es => exact s_call ok h1 (cEs_plain h2) (hEs _ _ h2)
        · rename_i f p es pos _ _ es' h1 h2
          split at h
          · rename_i b hb
            cases es with
            | nil => cases h
            | cons e es => cases h; exact s_blt ok h1 hb (cEs_plain h2) (hEs _ _ h2)
          · cases h
        · cases h
      · -- a method
        obtain ⟨hm, h⟩ := if_some h
        rw [Bool.and_eq_true, Bool.and_eq_true] at hm
        split at h
        · rename_i h1 h2 h3
          cases h
          refine s_mth h1 hm.1.1 hm.1.2 (of_decide_eq_true hm.2) (cEs_plain h3) (fun e => ?_) (hE _ _ h2) (hEs _ _ h3)
          subst e
          cases n with
          | zero => simp [cEs] at h3
          | succ n => simpa [cEs] using h3.symm
        · cases h
      · cases h
    · unfold cEs at h
      split at h
      · rename_i e; cases e
      · cases h; exact s_nil
      · rename_i e1
        cases e1
        obtain ⟨hm, h⟩ := if_some h
        split at h
        · rename_i h1 h2
          cases h; exact s_cons hm (hE _ _ h1) (hEs _ _ h2)
        · cases h
    · unfold cT at h
      split at h
      · exact t_one (hT _ _ h)
      · split at h
        · rename_i h1 h2
          cases h; exact t_and (hT _ _ h1) (hT _ _ h2)
        · cases h
      · split at h
        · rename_i h1 h2
          cases h; exact t_or (hT _ _ h1) (hT _ _ h2)
        · cases h
      · split at h
        · rename_i h1
          cases h; exact t_not (hT _ _ h1)
        · cases h
      · obtain ⟨hm, h⟩ := if_none h
        split at h
        · rename_i h1 h2
          cases h; exact s_cmpT ok hm (hE _ _ h1) (hE _ _ h2)
        · cases h
      · obtain ⟨hm, h⟩ := if_none h
        split at h
        · rename_i h1 h2 h3
          cases h; exact s_cmp2T ok hm (hE _ _ h1) (hE _ _ h2) (hE _ _ h3)
        · cases h
      · obtain ⟨hm, h⟩ := if_some h
        split at h
        · rename_i h1
          cases h; exact t_val hm (hE _ _ h1)
        · cases h
end L3
end
section
set_option autoImplicit false
set_option linter.all false
set_option maxRecDepth 100000
/-! L3: statements -/
namespace L3
open PySem L2 PyProof.Rows

/-- a statement has come to its end -/
def SP3 (C : Ct) (X : Cx) (M0 : Mp) (pins : List (Addr × Obj)) (Hb : Hp) (K : Ends) (f : Flow) (s' : Shared) : Prop := match f with
  | .next => ∃ σ3 M σ H, I3 C X M0 pins σ3 M σ H s' ∧ TupK Hb H ∧ K.nx σ3 M
  | .brk => ∃ σ3 M σ H, I3 C X M0 pins σ3 M σ H s' ∧ TupK Hb H ∧ K.bk σ3 M
  | .cont => ∃ σ3 M σ H, I3 C X M0 pins σ3 M σ H s' ∧ TupK Hb H ∧ K.ct σ3 M
  | .ret u => ∃ d v σ3 M σ H, I3 C X M0 pins σ3 M σ H s' ∧ TupK Hb H ∧ RelV v u ∧ RD C H d v ∧ K.rt d M
theorem SP3.from {C : Ct} {X : Cx} {M0 : Mp} {pins : List (Addr × Obj)} {Ha Hb : Hp} {K : Ends} {f : Flow} {s' : Shared} (k : TupK Ha Hb) (h : SP3 C X M0 pins Hb K f s') : SP3 C X M0 pins Ha K f s' := by
  cases f with
  | next => obtain ⟨a, b, c, d, I, k2, q⟩ := h; exact ⟨a, b, c, d, I, k.trans k2, q⟩
  | brk => obtain ⟨a, b, c, d, I, k2, q⟩ := h; exact ⟨a, b, c, d, I, k.trans k2, q⟩
  | cont => obtain ⟨a, b, c, d, I, k2, q⟩ := h; exact ⟨a, b, c, d, I, k.trans k2, q⟩
  | ret u => obtain ⟨x, v, a, b, c, d, I, k2, q⟩ := h; exact ⟨x, v, a, b, c, d, I, k.trans k2, q⟩
abbrev Xs := D → Lo → Mp → Prop
def SndS (ca : Nat → Addr) (X : Cx) (M0 : Mp) (P : Pr) (st : Stmt) (i : S) : Prop :=
  ∀ (X3 : Xs) (pins : List (Addr × Obj)) (s : Shared) (σ : L2.St) (H : Hp) (σ3 : Lo) (M : Mp) (K : Ends), I3 (ct X ca) X M0 pins σ3 M σ H s → wpS P i X3 K σ3 M →
    wpAny (model X.prog X.w) X.A (exec st X.env) (SP3 (ct X ca) X M0 pins H K) X.xe s
def SndSs (ca : Nat → Addr) (X : Cx) (M0 : Mp) (P : Pr) (st : List Stmt) (i : Ss) : Prop :=
  ∀ (X3 : Xs) (pins : List (Addr × Obj)) (s : Shared) (σ : L2.St) (H : Hp) (σ3 : Lo) (M : Mp) (K : Ends), I3 (ct X ca) X M0 pins σ3 M σ H s → wpSs P i X3 K σ3 M →
    wpAny (model X.prog X.w) X.A (execs st X.env) (SP3 (ct X ca) X M0 pins H K) X.xe s
/-- .. whatever is wanted of exceptions ahead -/
def SndEx (ca : Nat → Addr) (X : Cx) (M0 : Mp) (P : Pr) (e : Expr) (i : E) : Prop := ∀ X3 : Xp, SndE ca X M0 P X3 e i
def SndTx (ca : Nat → Addr) (X : Cx) (M0 : Mp) (P : Pr) (e : Expr) (i : T) : Prop := ∀ X3 : Xp, SndT ca X M0 P X3 e i
def SndEsx (ca : Nat → Addr) (X : Cx) (M0 : Mp) (P : Pr) (e : List Expr) (i : Es) : Prop := ∀ X3 : Xp, SndEs ca X M0 P X3 e i

section
variable {ca : Nat → Addr} {X : Cx} {M0 M : Mp} {pins : List (Addr × Obj)} {σ3 : Lo} {σ : L2.St} {H : Hp} {s : Shared} {P : Pr} {cc : CC}
theorem swaps_ok {e : Expr} {t : Option Expr} {n : Nat} {env : Env} (h : noComp e = true) : swapsWith e t n env = pure false := by
  unfold swapsWith
  cases e <;> first | rfl | cases h
theorem sole_ok {e t : Expr} {n : Nat} {env : Env} (h : noComp e = true) : swapsWithSole [t] e n env = pure false := by
  unfold swapsWithSole
  exact swaps_ok h
theorem st_expr {e : Expr} {pos : Pos} {ie : E} (hn : noComp e = true) (h : SndEx ca X M0 P e ie) : SndS ca X M0 P (.Expr e pos) (.expr ie) := by
  intro X3 pins s σ H σ3 M K I hw
  exact wpAny_Expr_any (thn (h _ pins s σ H σ3 M _ I hw) fun v s1 ⟨d, M1, v1, H1, I1, r, rd, st, q⟩ => ⟨σ3, M1, σ, H1, I1, st.tupK I.hp, q⟩) I.inv.quiet (swaps_ok hn)
theorem st_ret {e : Expr} {pos : Pos} {ie : E} (h : SndEx ca X M0 P e ie) : SndS ca X M0 P (.Return (some e) pos) (.ret ie) := by
  intro X3 pins s σ H σ3 M K I hw
  exact wpAny_Return_some (thn (h _ pins s σ H σ3 M _ I hw) fun v s1 ⟨d, M1, v1, H1, I1, r, rd, st, q⟩ => ⟨d, v1, σ3, M1, σ, H1, I1, st.tupK I.hp, r, rd, q⟩)
theorem I3.store (I : I3 (ct X ca) X M0 pins σ3 M σ H s) {i : Nat} {d : D} {v : V} (rd : RD (ct X ca) H d v) {s' : Shared} (J : Inv X pins (σ.set i (some v)) H s') : I3 (ct X ca) X M0 pins (σ3.set i (some d)) M (σ.set i (some v)) H s' :=
  ⟨J, I.lo.set rd, I.hp, I.st⟩
theorem st_set {e : Expr} {x : Str} {pos pos' : Pos} {ie : E} {i : Nat} (ok : Ok3 ca X P cc) (hi : cc.slotW x = some i) (hn : noComp e = true) (h : SndEx ca X M0 P e ie) : SndS ca X M0 P (.Assign [.Name x pos'] e pos) (.set (.one i) ie) := by
  intro X3 pins s σ H σ3 M K I hw
  obtain ⟨h1, h2, h3⟩ := slotW_ok ok hi
  refine wpAny_Assign_Name (thn (h _ pins s σ H σ3 M _ I hw) fun v s1 ⟨d, M1, v1, H1, I1, r, rd, st, q⟩ => ?_) (swaps_ok hn)
  exact store_ok I1.inv ok.nd h1 h2 r (fun s2 J => ⟨_, M1, _, H1, I1.store rd J, st.tupK I.hp, q⟩) h3
theorem assign_sub {o i : Expr} {pos : Pos} {env : Env} (h : notSlice i = true) (v : Value) : assign (.Subscript o i pos) env v = (do
    let ov ← holding [v] (eval o env)
    let iv ← holding [v, ov] (eval i env)
    standAt pos
    holding [v, ov, iv] (setItem ov iv v)
    release [v, ov, iv] []) := by
  cases i <;> first | rfl | cases h
theorem o_setIx {x y z : D} {a b c : V} {v u w : Value} {k : Mp → Prop} (I : I3 (ct X ca) X M0 pins σ3 M σ H s) (ra : RelV a v) (rb : RelV b u) (rc : RelV c w) (hx : RD (ct X ca) H x a) (hy : RD (ct X ca) H y b) (hz : RD (ct X ca) H z c) (h : wpSetIx x y z M k) :
    wpAny (model X.prog X.w) X.A (setItem v u w) (fun _ s' => ∃ M' H', I3 (ct X ca) X M0 pins σ3 M' σ H' s' ∧ TupK H H' ∧ k M') X.xe s := by
  cases x with
  | ref p =>
    have e : a = .ref p := hx; subst e
    cases g : M p with
    | none => simp only [wpSetIx, g] at h
    | some o =>
      cases o with
      | lst ds => cases y with
        | int i =>
          simp only [wpSetIx, g] at h
          obtain ⟨⟨h0, h1⟩, q⟩ := h
          obtain ⟨xs, hxs, rs⟩ := I.hp.lst g
          have hl := rs.length
          refine thn (set_list pins s σ H (.ref p) b c v u w (fun H' => H' = upd H p (.lst (xs.set i.toNat c))) I.inv ra rb rc ⟨p, xs, i, i.toNat, rfl, hy, hxs, ?_, rfl⟩) fun _ s' ⟨H', J, e⟩ => ?_
          · unfold ixN
            rw [if_pos h0, if_pos (by omega)]
          · subst e
            exact ⟨_, _, I.to J (I.hp.write (m' := .lst (ds.set i.toNat z)) g (RDs.keep (I.hp.tupKw g) (RDs.set i.toNat rs hz))) (write_stp g), I.hp.tupKw g, q⟩
        | _ => simp only [wpSetIx, g] at h
      | _ => simp only [wpSetIx, g] at h
  | _ => exact h.elim
theorem st_setIx {a b e : Expr} {pos pos' : Pos} {ia ib ie : E} (hs : notSlice b = true) (hn : noComp e = true) (ha : SndEx ca X M0 P a ia) (hb : SndEx ca X M0 P b ib) (h : SndEx ca X M0 P e ie) : SndS ca X M0 P (.Assign [.Subscript a b pos'] e pos) (.setIx ia ib ie) := by
  intro X3 pins s σ H σ3 M K I hw
  have h1 : (assignEach [.Subscript a b pos'] X.env).map (·.2) = [assign (.Subscript a b pos') X.env] := rfl
  refine wpAny_Assign_stores (thn (h _ pins s σ H σ3 M _ I hw) fun v s1 ⟨d, M1, v1, H1, I1, r, rd, st, q⟩ => ?_) (sole_ok hn) rfl
  rw [h1]
  refine thn (Q := fun _ s' => ∃ M' H', I3 (ct X ca) X M0 pins σ3 M' σ H' s' ∧ TupK H H' ∧ K.nx σ3 M') ?_ fun _ s' ⟨M', H', J, q⟩ => ⟨σ3, M', σ, H', J, q⟩
  show wpAny _ _ (assign (.Subscript a b pos') X.env v) _ _ _
  rw [assign_sub hs]
  refine wpAny_bind (wpAny_holding (thn (ha _ pins s1 σ H1 σ3 M1 _ I1 q) fun ov s2 ⟨x, M2, xv, H2, I2, r2, rd2, st2, q2⟩ => ?_))
  refine wpAny_bind (wpAny_holding (thn (hb _ pins s2 σ H2 σ3 M2 _ I2 q2) fun iv s3 ⟨y, M3, yv, H3, I3', r3, rd3, st3, q3⟩ => ?_))
  refine wpAny_bind (wpAny_standAt (wpAny_bind (wpAny_holding (thn (o_setIx I3' r2 r3 r (rd2.keep (st3.tupK I2.hp)) rd3 ((rd.keep (st2.tupK I1.hp)).keep (st3.tupK I2.hp)) q3) fun _ s4 ⟨M4, H4, I4, k4, q4⟩ => ?_))))
  exact wpAny_release ⟨M4, H4, I4, (((st.tupK I.hp).trans (st2.tupK I1.hp)).trans (st3.tupK I2.hp)).trans k4, q4⟩
theorem st_aug {x : Str} {e : Expr} {pos pos' : Pos} {i : Nat} {o : Operator} {o' : BOp} {ie : E} (ok : Ok3 ca X P cc) (hi : cc.slotW x = some i) (ho : cBop o = some o') (h : SndEx ca X M0 P e ie) : SndS ca X M0 P (.AugAssign (.Name x pos') o e pos) (.aug i o' ie) := by
  intro X3 pins s σ H σ3 M K I hw
  obtain ⟨h1, h2, h3⟩ := slotW_ok ok hi
  have eo : o = bop o' := by
    cases o <;> cases o' <;> first | rfl | cases ho
  subst eo
  obtain ⟨d, e1, hw⟩ := hw
  obtain ⟨v, ev, rd⟩ := I.lo.2 i d e1
  obtain ⟨m, hn, hl⟩ := I.inv.loc
  have vis : Vis X.env.scope x := by rcases h2 with k | k; exact .inl k; exact .inr (.inl k)
  obtain ⟨u, r, l⟩ := hl i x v h1 ev vis
  refine wpAny_AugAssign_Name ?_
  have go : wpAny (model X.prog X.w) X.A (eval e X.env) (fun w s₂ => wpAny (model X.prog X.w) X.A (inplaceOp (bop o') u w) (fun r s₃ => wpAny (model X.prog X.w) X.A (storeName X.env x r) (fun _ => SP3 (ct X ca) X M0 pins H K .next) X.xe s₃) X.xe s₂) X.xe s := by
    refine thn (h _ pins s σ H σ3 M _ I hw) fun w s1 ⟨y, M1, yv, H1, I1, r1, rd1, st1, q1⟩ => ?_
    refine thn (o_inp o' (ca := ca) pins s1 σ H1 M0 M1 σ3 d y v yv u w _ I1 r r1 (rd.keep (st1.tupK I.hp)) rd1 q1) fun z s2 ⟨zd, M2, zv, H2, I2, r2, rd2, st2, q2⟩ => ?_
    exact store_ok I2.inv ok.nd h1 h2 r2 (fun s3 J => ⟨_, M2, _, H2, I2.store rd2 J, (st1.tupK I.hp).trans (st2.tupK I1.hp), q2⟩) h3
  rcases l with ⟨hk, hm⟩ | ⟨hk, c, hc, hcell⟩
  · exact wpAny_loadName_local I.inv.ok.kind hk hn hm go
  · rcases hk with hk | hk
    · exact wpAny_loadName_cell I.inv.ok.kind hk hc hcell go
    · have hf : X.env.scope.names.lookup x = some .free := hk
      rcases h2 with k | k <;> (rw [k] at hf; cases hf)
theorem st_if {c : Expr} {a b : List Stmt} {pos : Pos} {ic : T} {ia ib : Ss} (hc : SndTx ca X M0 P c ic) (ha : SndSs ca X M0 P a ia) (hb : SndSs ca X M0 P b ib) : SndS ca X M0 P (.If c a b pos) (.ite ic ia ib) := by
  intro X3 pins s σ H σ3 M K I hw
  refine wpAny_If (thn (hc _ _ pins s σ H σ3 M _ (.inl rfl) I hw) fun d s1 ⟨M1, H1, I1, st, q⟩ => ?_)
  cases d with
  | true => exact thn (ha X3 pins s1 σ H1 σ3 M1 K I1 q) fun _ _ e => e.from (st.tupK I.hp)
  | false => exact thn (hb X3 pins s1 σ H1 σ3 M1 K I1 q) fun _ _ e => e.from (st.tupK I.hp)
theorem st_pass {pos : Pos} : SndS ca X M0 P (.Pass pos) .pass := fun X3 pins s σ H σ3 M K I hw => wpAny_Pass ⟨σ3, M, σ, H, I, TupK.refl, hw⟩
theorem st_brk {pos : Pos} : SndS ca X M0 P (.Break pos) .brk := fun X3 pins s σ H σ3 M K I hw => wpAny_Break ⟨σ3, M, σ, H, I, TupK.refl, hw⟩
theorem st_cnt {pos : Pos} : SndS ca X M0 P (.Continue pos) .cnt := fun X3 pins s σ H σ3 M K I hw => wpAny_Continue ⟨σ3, M, σ, H, I, TupK.refl, hw⟩
theorem sts_nil : SndSs ca X M0 P [] .nil := fun X3 pins s σ H σ3 M K I hw => wpAny_execs_nil ⟨σ3, M, σ, H, I, TupK.refl, hw⟩
theorem sts_cons {a : Stmt} {l : List Stmt} {ia : S} {il : Ss} (ha : SndS ca X M0 P a ia) (hl : SndSs ca X M0 P l il) : SndSs ca X M0 P (a :: l) (.cons ia il) := by
  intro X3 pins s σ H σ3 M K I hw
  refine wpAny_execs_cons (thn (ha X3 pins s σ H σ3 M _ I hw) fun f s1 q => ?_)
  cases f with
  | next =>
    obtain ⟨σ', M', σ2, H', I', k, q⟩ := q
    exact thn (hl X3 pins s1 σ2 H' σ' M' K I' q) fun _ _ e => e.from k
  | ret v => exact q
  | brk => exact q
  | cont => exact q
theorem st_wh {c : Expr} {b : List Stmt} {pos : Pos} {ic : T} {ib : Ss} (hp : PassesOwn (model X.prog X.w) X.A X.env X.xe) (hc : SndTx ca X M0 P c ic) (hb : SndSs ca X M0 P b ib) : SndS ca X M0 P (.While c b [] pos) (.wh ic ib) := by
  intro X3 pins s σ H σ3 M K I hw
  obtain ⟨n0, w0⟩ := hw
  refine wpAny_While (codeAny_whileLoop (fun n s' => ∃ σ3' M' σ' H', I3 (ct X ca) X M0 pins σ3' M' σ' H' s' ∧ TupK H H' ∧ whL (fun σ M k => wpT P (fun x M => X3 x σ M) ic σ M k) (fun D σ M => wpSs P ib X3 D σ M) K n σ3' M') ?_ n0 ⟨σ3, M, σ, H, I, TupK.refl, w0⟩)
  rintro n s1 ⟨σ3', M', σ', H', I', k0, w⟩
  cases n with
  | zero => exact False.elim w
  | succ n =>
    refine wpAny_passesOwn hp (thn (hc _ _ pins s1 σ' H' σ3' M' _ (.inl rfl) I' w) fun d s2 ⟨M2, H2, I2, st, q⟩ => ?_)
    have k2 := k0.trans (st.tupK I'.hp)
    cases d with
    | true =>
      rw [if_pos rfl]
      refine wpAny_passesOwn hp (thn (hb X3 pins s2 σ' H2 σ3' M2 _ I2 q) fun f s3 q3 => ?_)
      cases f with
      | next =>
        obtain ⟨σ4, M4, σ5, H4, I4, k4, q4⟩ := q3
        exact ⟨n, Nat.lt_succ_self n, σ4, M4, σ5, H4, I4, k2.trans k4, q4⟩
      | cont =>
        obtain ⟨σ4, M4, σ5, H4, I4, k4, q4⟩ := q3
        exact ⟨n, Nat.lt_succ_self n, σ4, M4, σ5, H4, I4, k2.trans k4, q4⟩
      | brk => obtain ⟨σ4, M4, σ5, H4, I4, k4, q4⟩ := q3; exact ⟨σ4, M4, σ5, H4, I4, k2.trans k4, q4⟩
      | ret v => exact q3.from k2
    | false =>
      rw [if_neg Bool.false_ne_true]
      exact wpAny_execs_nil ⟨σ3', M2, σ', H2, I2, k2, q⟩
end
end L3
end
section
set_option autoImplicit false
set_option linter.all false
set_option maxRecDepth 100000
/-! L3: what is walked, and the for loop -/
namespace L3
open PySem L2 PyProof.Rows

/-- the walk J yields the values ds one by one, while G holds of the heap; H0: the heap at its start -/
def ItRel (C : Ct) (J : It) (ds : List D) (G : Mp → Prop) (H0 : Hp) : Prop :=
  ∀ (H : Hp) (M : Mp), TupK H0 H → RM C H M → G M → (∀ i d, ds[i]? = some d → J.go i H ∧ ∀ x H', J.yld i H x H' → RM C H' M ∧ Stp H M H' M ∧ RD C H' d x) ∧ J.stop ds.length H
def FinOk (ca : Nat → Addr) (X : Cx) (fin : Mp → Mp) : Prop :=
  ∀ (M0 : Mp) (pins : List (Addr × Obj)) (σ3 : Lo) (M : Mp) (σ : L2.St) (H : Hp) (s : Shared), I3 (ct X ca) X M0 pins σ3 M σ H s → ∃ H', I3 (ct X ca) X M0 pins σ3 (fin M) σ H' s ∧ TupK H H'
def It3 (ca : Nat → Addr) (X : Cx) (M0 : Mp) (tg : Expr) (pins : List (Addr × Obj)) (σ3 : Lo) (σ : L2.St) (H : Hp) (M : Mp) (R : ItR) (itv : Value) (s2 : Shared) : Prop :=
  ∃ (it : Addr) (fp : List Addr) (tn : Nat → Heap → Prop) (J : It) (H' : Hp) (M' : Mp) (ds : List D) (G : Mp → Prop) (fin : Mp → Mp), itv = .ref it ∧ I3 (ct X ca) X M0 pins σ3 M' σ H' s2 ∧ Turn X.prog X.w X.K tg J fp it tn ∧ tn 0 s2.heap ∧ (∀ b ∈ fp, FpOk X pins H' b) ∧
    Stp H M H' M' ∧ ItRel (ct X ca) J ds G H' ∧ FinOk ca X fin ∧ R ds G M' fin
/-- what is walked comes -/
def SndI (ca : Nat → Addr) (X : Cx) (M0 : Mp) (P : Pr) (tg e : Expr) (k : ItK) (es : Es) : Prop :=
  ∀ (X3 : Xp) (pins : List (Addr × Obj)) (s : Shared) (σ : L2.St) (H : Hp) (σ3 : Lo) (M : Mp) (R : ItR), I3 (ct X ca) X M0 pins σ3 M σ H s → wpEs P X3 es σ3 M (fun ds M1 => wpIt k ds M1 R) →
    wpAny (model X.prog X.w) X.A (eval e X.env) (fun v s1 => wpAny (model X.prog X.w) X.A (pyIter v) (It3 ca X M0 tg pins σ3 σ H M R) X.xe s1) X.xe s

section
variable {ca : Nat → Addr} {X : Cx} {M0 M : Mp} {pins : List (Addr × Obj)} {σ3 : Lo} {σ : L2.St} {H : Hp} {s : Shared} {P : Pr} {cc : CC}
theorem finId : FinOk ca X id := fun M0 pins σ3 M σ H s I => ⟨H, I, TupK.refl⟩
/-! ### arguments, for the hand layer's rules -/
def AV (C : Ct) (H : Hp) (M : Mp) (Q : List D → Mp → Prop) : List V → Hp → Prop := fun vs H' => ∃ ds M', RM C H' M' ∧ Stp H M H' M' ∧ RDs C H' ds vs ∧ Q ds M'
def taOf (ca : Nat → Addr) (X : Cx) (M0 : Mp) (P : Pr) (X3 : Xp) (ies : Es) : TA := fun σ H Q => ∃ σ3 M Q3, (RL (ct X ca) H σ3 σ ∧ RM (ct X ca) H M ∧ Stp X.H_0 M0 H M) ∧ wpEs P X3 ies σ3 M Q3 ∧ ∀ vs H', AV (ct X ca) H M Q3 vs H' → Q vs H'
theorem pa_of {X3 : Xp} {es : List Expr} {ies : Es} (h : SndEs ca X M0 P X3 es ies) : PA X es (taOf ca X M0 P X3 ies) := by
  refine ⟨fun pos pins s σ H Q I ⟨σ3, M, Q3, ⟨h1, h2, h3⟩, hw, hq⟩ => ?_⟩
  exact thn (h pos pins s σ H σ3 M Q3 ⟨I, h1, h2, h3⟩ hw) fun us s1 ⟨ds, M1, vs, H1, I1, rv, rd, st, q⟩ => ⟨vs, H1, I1.inv, rv, hq vs H1 ⟨ds, M1, I1.hp, st, rd, q⟩⟩

/-! ### the kinds -/
theorem it_lst {a : Addr} {ds : List D} {H0 : Hp} : ItRel (ct X ca) (Itl X.K a) ds (fun M' => M' a = some (.lst ds)) H0 := by
  intro H M k r g
  obtain ⟨xs, hx, rs⟩ := r.lst g
  have hl := rs.length
  refine ⟨fun i d e => ?_, ⟨xs, SqL.of hx, by omega⟩⟩
  obtain ⟨x, e1, r1⟩ := rs.get e
  refine ⟨⟨xs, x, SqL.of hx, e1⟩, fun y H' ⟨e2, q⟩ => ?_⟩
  subst e2
  have e3 := q xs (SqL.of hx)
  rw [e1] at e3; cases e3
  exact ⟨r, Stp.refl, r1⟩
theorem it_kl {a : Addr} {xs : List V} {ds : List D} {H0 : Hp} (hq : SqF X.K H0 a xs) (rs : RDs (ct X ca) H0 ds xs) : ItRel (ct X ca) (Itl X.K a) ds (fun _ => True) H0 := by
  intro H M k r _
  have hq := k.sqf hq
  have rs := rs.keep k
  have hl := rs.length
  refine ⟨fun i d e => ?_, ⟨xs, hq.sq, by omega⟩⟩
  obtain ⟨x, e1, r1⟩ := rs.get e
  refine ⟨⟨xs, x, hq.sq, e1⟩, fun y H' ⟨e2, q⟩ => ?_⟩
  subst e2
  have e3 := q xs hq.sq
  rw [e1] at e3; cases e3
  exact ⟨r, Stp.refl, r1⟩
theorem it_tup {a : Addr} {xs : List V} {ds : List D} {H0 : Hp} (hq : SqT X.K H0 a xs) (rs : RDs (ct X ca) H0 ds xs) : ItRel (ct X ca) (Itt X.K a) ds (fun _ => True) H0 := by
  intro H M k r _
  have hq := k.sq hq
  have rs := rs.keep k
  have hl := rs.length
  refine ⟨fun i d e => ?_, ⟨xs, hq, by omega⟩⟩
  obtain ⟨x, e1, r1⟩ := rs.get e
  refine ⟨⟨xs, x, hq, e1⟩, fun y H' ⟨e2, q⟩ => ?_⟩
  subst e2
  have e3 := q xs hq
  rw [e1] at e3; cases e3
  exact ⟨r, Stp.refl, r1⟩
theorem it_str {x : Str} {H0 : Hp} : ItRel (ct X ca) (Its x) (x.cps.toList.map fun c => .str ⟨#[c]⟩) (fun _ => True) H0 := by
  intro H M k r _
  refine ⟨fun i d e => ?_, ?_⟩
  · rw [List.getElem?_map] at e
    cases g : x.cps.toList[i]? with
    | none => rw [g] at e; cases e
    | some c =>
      rw [g] at e
      cases e
      have g' : x.cps[i]? = some c := by simpa using g
      have hlt : i < x.cps.size := by
        obtain ⟨h, _⟩ := Array.getElem?_eq_some_iff.mp g'
        exact h
      refine ⟨hlt, fun y H' ⟨e2, c', e3, e4⟩ => ?_⟩
      subst e2
      rw [g'] at e3; cases e3
      exact ⟨r, Stp.refl, e4⟩
  · show x.cps.size ≤ _
    simp
theorem dRange_get {lo hi : Int} {i : Nat} {d : D} (h : (dRange lo hi)[i]? = some d) : i < (hi - lo).toNat ∧ d = .int (lo + (i : Int)) := by
  unfold dRange at h
  rw [List.getElem?_map] at h
  by_cases hi' : i < (hi - lo).toNat
  · rw [List.getElem?_range hi'] at h
    cases h
    exact ⟨hi', rfl⟩
  · rw [List.getElem?_eq_none (by simp; omega)] at h
    cases h
theorem dRange_length {lo hi : Int} : (dRange lo hi).length = (hi - lo).toNat := by simp [dRange]
theorem it_rng {lo hi : Int} {H0 : Hp} : ItRel (ct X ca) (Itr lo (hi - lo).toNat) (dRange lo hi) (fun _ => True) H0 := by
  intro H M k r _
  refine ⟨fun i d e => ?_, ?_⟩
  · obtain ⟨h1, rfl⟩ := dRange_get e
    refine ⟨h1, fun y H' ⟨e2, e3⟩ => ?_⟩
    subst e2
    exact ⟨r, Stp.refl, e3⟩
  · show _ ≤ _
    rw [dRange_length]
    exact Nat.le_refl _
theorem it_rev {a : Addr} {ds : List D} {n : Nat} {H0 : Hp} (hn : ds.length = n) : ItRel (ct X ca) (Itv X.K a n) ds.reverse (fun M' => M' a = some (.lst ds)) H0 := by
  intro H M k r g
  obtain ⟨xs, hx, rs⟩ := r.lst g
  have hl := rs.length
  refine ⟨fun i d e => ?_, ?_⟩
  · have hlt : i < ds.length := by
      have := (List.getElem?_eq_some_iff.mp e).1
      simpa using this
    rw [List.getElem?_reverse hlt, hn] at e
    obtain ⟨x, e1, r1⟩ := rs.get e
    refine ⟨⟨by omega, xs, x, SqL.of hx, e1⟩, fun y H' ⟨e2, q⟩ => ?_⟩
    subst e2
    have e3 := q xs (SqL.of hx)
    rw [e1] at e3; cases e3
    exact ⟨r, Stp.refl, r1⟩
  · show n ≤ _
    rw [List.length_reverse, hn]
    exact Nat.le_refl _
theorem one_it {tg : Expr} {R : ItR} {H1 : Hp} {M1 : Mp} {s1 : Shared} {h' : Heap} {tk : Nat} {it : Addr} {J : It} {tn : Nat → Heap → Prop} {ds : List D} {G : Mp → Prop} (I1 : I3 (ct X ca) X M0 pins σ3 M1 σ H1 s1)
    (hit : it = s1.heap.objs.size) (hk : ∀ b o, s1.heap.get? b = some o → h'.get? b = some o) (T : Turn X.prog X.w X.K tg J [it] it tn) (t0 : tn 0 h') (st : Stp H M H1 M1) (hr : ItRel (ct X ca) J ds G H1) (q : R ds G M1 id) :
    It3 ca X M0 tg pins σ3 σ H M R (.ref it) { s1 with heap := h', toks := tk } := by
  refine ⟨it, [it], tn, J, H1, M1, ds, G, id, rfl, I1.same (I1.inv.kept (t' := tk) hk), T, t0, fun b hb => ?_, st, hr, finId, q⟩
  have e : b = s1.heap.objs.size := by rw [← hit]; simpa using hb
  subst e
  exact I1.inv.fpOk (Nat.le_refl _) (I1.inv.hok.fresh (Nat.le_refl _))
/-- from a value that has come -/
theorem iter_plain {tg : Expr} {R : ItR} {x : D} {v : V} {u : Value} {H1 : Hp} {M1 : Mp} {s1 : Shared} (I1 : I3 (ct X ca) X M0 pins σ3 M1 σ H1 s1) (rv : RelV v u) (rd : RD (ct X ca) H1 x v) (st : Stp H M H1 M1) (h : wpIt .plain [x] M1 R) :
    wpAny (model X.prog X.w) X.A (pyIter u) (It3 ca X M0 tg pins σ3 σ H M R) X.xe s1 := by
  cases x with
  | tup xs =>
    obtain ⟨a, ys, rfl, hq, rs⟩ := rd
    cases rv
    obtain ⟨its, rv, p, hz⟩ := I1.inv.tuple hq
    exact wpAny_pyIter_tuple (show s1.heap.IsTuple a its.toArray from p) (one_it (tk := s1.toks) I1 rfl (fun b o e => Heap.get?_push_of_some _ e) (turn_tuple a _) ⟨_, Heap.get?_push_size _ rfl, rfl, rfl⟩ st (it_tup hq rs) h)
  | kl xs =>
    obtain ⟨a, ys, rfl, hq, rs⟩ := rd
    cases rv
    obtain ⟨its, rv, p, hz⟩ := I1.inv.list hq.sq
    exact wpAny_pyIter_list p.isList (one_it (tk := s1.toks) I1 rfl (fun b o e => Heap.get?_push_of_some _ e) (turn_list a _) ⟨_, Heap.get?_push_size _ rfl, rfl, rfl⟩ st (it_kl hq rs) h)
  | str x =>
    have e : v = .str x := rd
    subst e
    obtain ⟨t, rfl⟩ := rv
    cases ha : x.cps.all (· < 128)
    · exact wpAny_pyIter_wide ha (one_it (tk := s1.toks) I1 rfl (fun b o e => Heap.get?_push_of_some _ e) (turn_str _ x t "str_iterator" (.inr rfl)) ⟨_, Heap.get?_push_size _ rfl, rfl, rfl⟩ st it_str h.2)
    · exact wpAny_pyIter_ascii ha (one_it (tk := s1.toks) I1 rfl (fun b o e => Heap.get?_push_of_some _ e) (turn_str _ x t "str_ascii_iterator" (.inl rfl)) ⟨_, Heap.get?_push_size _ rfl, rfl, rfl⟩ st it_str h.2)
  | ref a =>
    have e : v = .ref a := rd
    subst e
    cases rv
    cases g : M1 a with
    | none => simp only [wpIt, g] at h
    | some o =>
      cases o with
      | lst ds =>
        simp only [wpIt, g] at h
        obtain ⟨xs, hx, rs⟩ := I1.hp.lst g
        obtain ⟨its, rv, p, hz⟩ := I1.inv.list (SqL.of hx)
        exact wpAny_pyIter_list p.isList (one_it (tk := s1.toks) I1 rfl (fun b o e => Heap.get?_push_of_some _ e) (turn_list a _) ⟨_, Heap.get?_push_size _ rfl, rfl, rfl⟩ st it_lst h)
      | _ => simp only [wpIt, g] at h
  | _ => exact h.elim
theorem i_plain {tg e : Expr} {ie : E} (he : SndEx ca X M0 P e ie) : SndI ca X M0 P tg e .plain (.cons ie .nil) := by
  intro X3 pins s σ H σ3 M R I hw
  exact thn (he X3 pins s σ H σ3 M _ I hw) fun v s1 ⟨x, M1, xv, H1, I1, rv, rd, st, q⟩ => iter_plain I1 rv rd st q
theorem it3_of {tg : Expr} {R : ItR} {itv : Value} {s2 : Shared} (I : I3 (ct X ca) X M0 pins σ3 M σ H s)
    (h : PIE X pins σ tg (fun J H' => ∃ M' ds G, RM (ct X ca) H' M' ∧ Stp H M H' M' ∧ ItRel (ct X ca) J ds G H' ∧ R ds G M' id) itv s2) : It3 ca X M0 tg pins σ3 σ H M R itv s2 := by
  obtain ⟨it, fp, tn, J, H', e, J', T, t0, f, M', ds, G, r, st, hr, q⟩ := h
  exact ⟨it, fp, tn, J, H', M', ds, G, id, e, I.to J' r st, T, t0, f, st, hr, finId, q⟩
theorem one_arg {Q : List D → Mp → Prop} {X3 : Xp} {ie : E} (h : wpEs P X3 (.cons ie .nil) σ3 M Q) : wpEs P X3 (.cons ie .nil) σ3 M fun ds M' => ∃ d, ds = [d] ∧ Q ds M' := by
  have e : (fun (d : D) (M' : Mp) => ∃ d', [d] = [d'] ∧ Q [d] M') = fun d M' => Q [d] M' := by
    funext d M'
    exact propext ⟨fun ⟨_, _, q⟩ => q, fun q => ⟨d, rfl, q⟩⟩
  show wpE P X3 ie σ3 M fun (d : D) (M' : Mp) => ∃ d', [d] = [d'] ∧ Q [d] M'
  rw [e]
  exact h
theorem two_args {Q : List D → Mp → Prop} {X3 : Xp} {ie ie2 : E} (h : wpEs P X3 (.cons ie (.cons ie2 .nil)) σ3 M Q) : wpEs P X3 (.cons ie (.cons ie2 .nil)) σ3 M fun ds M' => (∃ d d', ds = [d, d']) ∧ Q ds M' := by
  have e : ∀ d : D, (fun (d' : D) (M' : Mp) => (∃ c c', [d, d'] = [c, c']) ∧ Q [d, d'] M') = fun d' M' => Q [d, d'] M' := by
    intro d
    funext d' M'
    exact propext ⟨fun ⟨_, q⟩ => q, fun q => ⟨⟨d, d', rfl⟩, q⟩⟩
  show wpE P X3 ie σ3 M fun (d : D) (M1 : Mp) => wpE P X3 ie2 σ3 M1 fun (d' : D) (M' : Mp) => (∃ c c', [d, d'] = [c, c']) ∧ Q [d, d'] M'
  have e2 : (fun (d : D) (M1 : Mp) => wpE P X3 ie2 σ3 M1 fun (d' : D) (M' : Mp) => (∃ c c', [d, d'] = [c, c']) ∧ Q [d, d'] M') = fun d M1 => wpE P X3 ie2 σ3 M1 fun d' M' => Q [d, d'] M' := by
    funext d M1
    rw [e d]
  rw [e2]
  exact h
theorem i_range1 {tg a : Expr} {ie : E} {p pos : Pos} (hg : Gl X "range") (hm : X.mg "range" = none) (hn : notStar a = true) (ha : SndEsx ca X M0 P [a] (.cons ie .nil)) : SndI ca X M0 P tg (.Call (.Name "range" p) [a] [] pos) .range (.cons ie .nil) := by
  intro X3 pins s σ H σ3 M R I hw
  have hs : starEach [a] X.env = [(false, eval a X.env)] := by rw [star_ok hn]; rfl
  refine thn ((pi_range1 hg hm (pa_of (ha X3)) hs).run pins s σ H _ I.inv ⟨σ3, M, _, ⟨I.lo, I.hp, I.st⟩, one_arg hw, fun vs H' ⟨ds, M', r, st, rd, ⟨d, e, q⟩⟩ => ?_⟩) fun v s1 h1 => thn h1 fun itv s2 h2 => it3_of I h2
  subst e
  obtain ⟨y, l, rfl, r1, r2⟩ := rd
  rw [show l = [] from r2]
  cases d with
  | int n =>
    rw [show y = .int n from r1]
    obtain ⟨⟨q1, q2⟩, q⟩ := q
    refine ⟨n, rfl, q1, q2, M', dRange 0 n, fun _ => True, r, st, ?_, q⟩
    have := it_rng (ca := ca) (X := X) (lo := 0) (hi := n) (H0 := H')
    rwa [Int.sub_zero] at this
  | _ => exact q.elim
theorem i_range2 {tg a b : Expr} {ie ie2 : E} {p pos : Pos} (hg : Gl X "range") (hm : X.mg "range" = none) (hn : notStar a = true) (hn2 : notStar b = true) (ha : SndEsx ca X M0 P [a, b] (.cons ie (.cons ie2 .nil))) : SndI ca X M0 P tg (.Call (.Name "range" p) [a, b] [] pos) .range (.cons ie (.cons ie2 .nil)) := by
  intro X3 pins s σ H σ3 M R I hw
  have hs2 : starEach [b] X.env = [(false, eval b X.env)] := by rw [star_ok hn2]; rfl
  have hs : starEach [a, b] X.env = [(false, eval a X.env), (false, eval b X.env)] := by rw [star_ok hn, hs2]
  refine thn ((pi_range2 hg hm (pa_of (ha X3)) hs hs2).run pins s σ H _ I.inv ⟨σ3, M, _, ⟨I.lo, I.hp, I.st⟩, two_args hw, fun vs H' ⟨ds, M', r, st, rd, ⟨d, d', e⟩, q⟩ => ?_⟩) fun v s1 h1 => thn h1 fun itv s2 h2 => it3_of I h2
  subst e
  obtain ⟨y, l, rfl, r1, y2, l2, rfl, r2, r3⟩ := rd
  rw [show l2 = [] from r3]
  cases d with
  | int n => cases d' with
    | int m =>
      rw [show y = .int n from r1, show y2 = .int m from r2]
      obtain ⟨⟨⟨q1, q2⟩, q3, q4⟩, q⟩ := q
      exact ⟨n, m, rfl, ⟨q1, q2, q3, q4⟩, M', dRange n m, fun _ => True, r, st, it_rng, q⟩
    | _ => exact q.elim
  | _ => exact q.elim
theorem i_rev {tg a : Expr} {ie : E} {p pos : Pos} (hg : Gl X "reversed") (hm : X.mg "reversed" = none) (hn : notStar a = true) (ha : SndEsx ca X M0 P [a] (.cons ie .nil)) : SndI ca X M0 P tg (.Call (.Name "reversed" p) [a] [] pos) .reversed (.cons ie .nil) := by
  intro X3 pins s σ H σ3 M R I hw
  have hs : starEach [a] X.env = [(false, eval a X.env)] := by rw [star_ok hn]; rfl
  refine thn ((pi_reversed hg hm (pa_of (ha X3)) hs).run pins s σ H _ I.inv ⟨σ3, M, _, ⟨I.lo, I.hp, I.st⟩, one_arg hw, fun vs H' ⟨ds, M', r, st, rd, ⟨d, e, q⟩⟩ => ?_⟩) fun v s1 h1 => thn h1 fun itv s2 h2 => it3_of I h2
  subst e
  obtain ⟨y, l, rfl, r1, r2⟩ := rd
  rw [show l = [] from r2]
  cases d with
  | ref a =>
    rw [show y = .ref a from r1]
    cases g : M' a with
    | none => simp only [wpIt, g] at q
    | some o =>
      cases o with
      | lst ds =>
        simp only [wpIt, g] at q
        obtain ⟨xs, hx, rs⟩ := r.lst g
        exact ⟨a, xs, rfl, SqL.of hx, M', ds.reverse, fun M' => M' a = some (.lst ds), r, st, it_rev rs.length, q⟩
      | _ => simp only [wpIt, g] at q
  | _ => exact q.elim

/-! ### targets -/
def SndTg (ca : Nat → Addr) (X : Cx) (M0 : Mp) (tg : Expr) (t : Tg) : Prop :=
  ∀ (pins : List (Addr × Obj)) (s : Shared) (σ : L2.St) (H : Hp) (σ3 : Lo) (M : Mp) (d : D) (v : V) (u : Value) (k : Lo → Prop), I3 (ct X ca) X M0 pins σ3 M σ H s → RelV v u → RD (ct X ca) H d v → wpTg t d σ3 M k →
    wpAny (model X.prog X.w) X.A (assign tg X.env u) (fun _ s' => ∃ σ3' σ' H', I3 (ct X ca) X M0 pins σ3' M σ' H' s' ∧ TupK H H' ∧ k σ3') X.xe s
theorem tg_one {x : Str} {pos : Pos} {i : Nat} (ok : Ok3 ca X P cc) (hi : cc.slotW x = some i) : SndTg ca X M0 (.Name x pos) (.one i) := by
  intro pins s σ H σ3 M d v u k I rv rd h
  obtain ⟨h1, h2, h3⟩ := slotW_ok ok hi
  exact wpAny_assign_Name (store_ok I.inv ok.nd h1 h2 rv (fun s2 J => ⟨_, _, H, I.store rd J, TupK.refl, h⟩) h3)

/-! ### for -/
theorem st_for {tg e : Expr} {b : List Stmt} {pos : Pos} {t : Tg} {k : ItK} {es : Es} {ib : Ss} (hp : PassesOwn (model X.prog X.w) X.A X.env X.xe) (hc : X.calm = true) (hs : ∀ x, foldedSetIterable e X.env x = pure x)
    (hi : SndI ca X M0 P tg e k es) (ht : SndTg ca X M0 tg t) (hb : SndSs ca X M0 P b ib) : SndS ca X M0 P (.For tg e b [] pos) (.for t k es ib) := by
  intro X3 pins s σ H σ3 M K I hw
  refine wpAny_For (thn (hi _ pins s σ H σ3 M _ I hw) fun v s1 h1 => thn h1 fun itv s2 h2 => ?_) hs
  obtain ⟨it, fp, tn, J, H2, M2, ds, G, fin, e, I2, T, st2, f2, sp2, hr, hf, w⟩ := h2
  subst e
  have stat : ∀ {H' : Hp}, (∀ b ∈ fp, H' b = none) → ∀ b ∈ fp, FpOk X pins H' b := fun hn b hb => ⟨hn b hb, (f2 b hb).2⟩
  have kH : TupK H H2 := sp2.tupK I.hp
  revert w
  generalize hE : (⟨fun σ M => K.nx σ (fin M), fun d M => K.rt d (fin M), fun σ M => K.nx σ (fin M), fun _ _ => False⟩ : Ends) = KE
  generalize hB : (fun (D : Ends) (σ : Lo) (M : Mp) => wpSs P ib (fun x σ M => X3 x σ (fin M)) D σ M) = B
  intro w
  -- the end of the loop
  have out : ∀ {σ3' : Lo} {M' : Mp} {σ' : L2.St} {H' : Hp} {s' : Shared}, I3 (ct X ca) X M0 pins σ3' M' σ' H' s' → TupK H H' → KE.nx σ3' M' → SP3 (ct X ca) X M0 pins H K .next s' := fun {σ3' M' σ' H' s'} I' k q => by
    subst hE
    obtain ⟨H'', I'', k'⟩ := hf _ _ _ _ _ _ _ I'
    exact ⟨σ3', _, σ', H'', I'', k.trans k', q⟩
  have I3pin : ∀ {pl : List (Addr × Obj)} {σ3' : Lo} {M' : Mp} {σ' : L2.St} {H' : Hp} {s' : Shared}, I3 (ct X ca) X M0 (pins ++ pl) σ3' M' σ' H' s' → I3 (ct X ca) X M0 pins σ3' M' σ' H' s' := fun I' => ⟨I'.inv.unpinned, I'.lo, I'.hp, I'.st⟩
  refine codeAny_forLoop_any (fun n s' => ∃ i σ3' M' σ' H', n = ds.length - i ∧ i ≤ ds.length ∧ I3 (ct X ca) X M0 pins σ3' M' σ' H' s' ∧ tn i s'.heap ∧ (∀ b ∈ fp, H' b = none) ∧ TupK H2 H' ∧ forL t B G KE (ds.drop i) σ3' M') ?_ (ds.length - 0) ⟨0, σ3, M2, σ, H2, rfl, Nat.zero_le _, I2, st2, fun b hb => (f2 b hb).1, TupK.refl, w⟩
  rintro n s3 ⟨i, σ3', M3, σ', H3, en, hin, I3', st3, fr3, k3, w3⟩
  subst en
  by_cases hlt : i < ds.length
  · rw [List.drop_eq_getElem_cons hlt] at w3
    obtain ⟨g, w3⟩ := w3
    have r3 := (hr H3 M3 k3 I3'.hp g).1 i ds[i] (List.getElem?_eq_getElem hlt)
    refine wpAny_passesOwn hp (thn (T.item X rfl rfl rfl hc i pins s3 σ' H3 X.xe I3'.inv (stat fr3) st3 r3.1) fun r s4 ⟨u, hru, h4⟩ => ?_)
    subst hru
    refine wpAny_passesOwn hp (thn h4 fun _ s5 ⟨x, H5, J5, r5, y5, st5, fr5⟩ => ?_)
    obtain ⟨q1, q2, q3⟩ := r3.2 x H5 y5
    have I5 := I3'.to J5 q1 q2
    have k5 := q2.tupK I3'.hp
    have I5' : I3 (ct X ca) X M0 (pins ++ pinsAt fp s5.heap) σ3' M3 σ' H5 s5 := ⟨I5.inv.pinned (stat fr5) (T.obj _ _ st5), I5.lo, I5.hp, I5.st⟩
    refine wpAny_passesOwn hp (thn (ht _ s5 σ' H5 σ3' M3 _ x u _ I5' r5 q3 w3) fun _ s6 ⟨σ36, σ6, H6, I6, k6, q6⟩ => ?_)
    subst hB
    have k36 : TupK H2 H6 := (k3.trans k5).trans k6
    have body := hb _ _ s6 σ6 H6 σ36 M3 _ I6 q6
    refine wpAny_passesOwn hp (thn body fun f s7 q7 => ?_)
    have again : ∀ {σ37 : Lo} {M7 : Mp} {σ7 : L2.St} {H7 : Hp}, I3 (ct X ca) X M0 (pins ++ pinsAt fp s5.heap) σ37 M7 σ7 H7 s7 → TupK H2 H7 → forL t (fun (D : Ends) (σ : Lo) (M : Mp) => wpSs P ib (fun x σ M => X3 x σ (fin M)) D σ M) G KE (ds.drop (i + 1)) σ37 M7 →
        ∃ m, m < ds.length - i ∧ ∃ i' σ3' M' σ' H', m = ds.length - i' ∧ i' ≤ ds.length ∧ I3 (ct X ca) X M0 pins σ3' M' σ' H' s7 ∧ tn i' s7.heap ∧ (∀ b ∈ fp, H' b = none) ∧ TupK H2 H' ∧ forL t (fun (D : Ends) (σ : Lo) (M : Mp) => wpSs P ib (fun x σ M => X3 x σ (fin M)) D σ M) G KE (ds.drop i') σ3' M' := fun {σ37 M7 σ7 H7} I7 k7 w7 => by
      refine ⟨ds.length - (i + 1), by omega, i + 1, σ37, M7, σ7, H7, rfl, hlt, I3pin I7, T.keep _ _ _ st5 fun b hb o e => (I7.inv.pin (b, o) (List.mem_append_right _ (List.mem_append_right _ (mem_pinsAt hb e)))).1, fun b hb => ?_, k7, w7⟩
      obtain ⟨o, e, d⟩ := T.obj _ _ st5 b hb
      exact (I7.inv.pin (b, o) (List.mem_append_right _ (List.mem_append_right _ (mem_pinsAt hb e)))).2.1
    cases f with
    | next => obtain ⟨σ37, M7, σ7, H7, I7, k7, n7⟩ := q7; exact again I7 (k36.trans k7) n7
    | cont => obtain ⟨σ37, M7, σ7, H7, I7, k7, n7⟩ := q7; exact again I7 (k36.trans k7) n7
    | brk => obtain ⟨σ37, M7, σ7, H7, I7, k7, n7⟩ := q7; exact out (I3pin I7) (kH.trans (k36.trans k7)) n7
    | ret v =>
      obtain ⟨d, v7, σ37, M7, σ7, H7, I7, k7, r7, rd7, n7⟩ := q7
      subst hE
      obtain ⟨H'', I'', k''⟩ := hf _ _ _ _ _ _ _ (I3pin I7)
      exact ⟨d, v7, σ37, _, σ7, H'', I'', (kH.trans (k36.trans k7)).trans k'', r7, rd7.keep k'', n7⟩
  · have ei : i = ds.length := by omega
    subst ei
    rw [List.drop_length] at w3
    obtain ⟨g, w3⟩ := w3
    have stop := (hr H3 M3 k3 I3'.hp g).2
    refine wpAny_passesOwn hp (thn (T.done X rfl rfl rfl hc _ pins s3 σ' H3 X.xe I3'.inv (stat fr3) st3 stop) fun r s4 ⟨hr4, I4⟩ => ?_)
    subst hr4
    exact wpAny_execs_nil (out (I3'.same I4) (kH.trans k3) w3)
end
end L3
end
section
set_option autoImplicit false
set_option linter.all false
set_option maxRecDepth 100000
/-! L3: every compiled statement is sound -/
namespace L3
open PySem L2 PyProof.Rows

section
variable {ca : Nat → Addr} {X : Cx} {M0 M : Mp} {P : Pr} {cc : CC}
theorem cEs_one {n : Nat} {a : Expr} {ies : Es} (h : cEs n cc [a] = some ies) : ∃ ie, ies = .cons ie .nil := by
  cases n with
  | zero => simp [cEs] at h
  | succ n =>
    simp only [cEs] at h
    obtain ⟨_, h⟩ := if_some h
    split at h
    · rename_i h1 h2
      cases h
      cases n with
      | zero => simp [cEs] at h2
      | succ n => simp [cEs] at h2; subst h2; exact ⟨_, rfl⟩
    · cases h
theorem cEs_two {n : Nat} {a b : Expr} {ies : Es} (h : cEs n cc [a, b] = some ies) : ∃ ie ie2, ies = .cons ie (.cons ie2 .nil) := by
  cases n with
  | zero => simp [cEs] at h
  | succ n =>
    unfold cEs at h
    obtain ⟨_, h⟩ := if_some h
    split at h
    · rename_i h1 h2
      cases h
      obtain ⟨ie2, rfl⟩ := cEs_one h2
      exact ⟨_, _, rfl⟩
    · cases h
theorem cI_ok {tg e : Expr} {n : Nat} {k : ItK} {es : Es} (ok : Ok3 ca X P cc) (h : cI n cc e = some (k, es)) : SndI ca X M0 P tg e k es ∧ ∀ x, foldedSetIterable e X.env x = pure x := by
  have hE : ∀ (e : Expr) (i : E), cE n cc e = some i → SndEx ca X M0 P e i := fun e i h X3 => (allE n ca X M0 P X3 cc ok).1 e i h
  have hEs : ∀ (e : List Expr) (i : Es), cEs n cc e = some i → SndEsx ca X M0 P e i := fun e i h X3 => (allE n ca X M0 P X3 cc ok).2.1 e i h
  unfold cI at h
  split at h
  · refine ⟨?_, fun _ => rfl⟩
    split at h
    · rename_i h1 h2
      obtain ⟨hg, hl, _, _⟩ := glob_ok ok h1
      split at h
      · rename_i hf
        have hf : _ = ("range" : Str) := eq_of_beq hf
        subst hf
        split at h
        · cases h
          obtain ⟨ie, rfl⟩ := cEs_one h2
          exact i_range1 hg (ok.g.blt _ hl) (cEs_plain h2 _ (by simp)) (hEs _ _ h2)
        · cases h
          obtain ⟨ie, ie2, rfl⟩ := cEs_two h2
          exact i_range2 hg (ok.g.blt _ hl) (cEs_plain h2 _ (by simp)) (cEs_plain h2 _ (by simp)) (hEs _ _ h2)
        · cases h
      · split at h
        · rename_i hf
          have hf : _ = ("reversed" : Str) := eq_of_beq hf
          subst hf
          split at h
          · cases h
            obtain ⟨ie, rfl⟩ := cEs_one h2
            exact i_rev hg (ok.g.blt _ hl) (cEs_plain h2 _ (by simp)) (hEs _ _ h2)
          · cases h
        · cases h
    · rename_i f p es pos _ _ i' es' h1 h2
      cases h
      refine i_plain fun X3 => ?_
      cases es with
      | nil =>
        have : es' = .nil := by
          cases n with
          | zero => simp [cEs] at h2
          | succ n => simpa [cEs] using h2.symm
        subst this
        exact s_call0 ok h1
      | cons e es => exact s_call ok h1 (cEs_plain h2) (hEs _ _ h2 X3)
    · cases h
  · split at h
    · rename_i h1
      obtain ⟨hs, h⟩ := if_some h
      cases h
      refine ⟨i_plain (hE _ _ h1), fun x => ?_⟩
      cases e <;> first | rfl | cases hs
    · cases h
theorem cTg_ok {tg : Expr} {t : Tg} (ok : Ok3 ca X P cc) (h : cTg cc tg = some t) : SndTg ca X M0 tg t := by
  unfold cTg at h
  split at h
  · split at h
    · cases h; exact tg_one ok (by assumption)
    · cases h
  · cases h
end
def AllS (n : Nat) : Prop := ∀ (ca : Nat → Addr) (X : Cx) (M0 : Mp) (P : Pr) (cc : CC), Ok3 ca X P cc → PassesOwn (model X.prog X.w) X.A X.env X.xe →
  (∀ (e : Stmt) (i : S), cS n cc e = some i → SndS ca X M0 P e i) ∧ (∀ (es : List Stmt) (i : Ss), cSs n cc es = some i → SndSs ca X M0 P es i)
theorem allSt : ∀ n, AllS n
  | 0 => fun ca X M0 P cc ok hp => ⟨fun e i h => by simp [cS] at h, fun e i h => by simp [cSs] at h⟩
  | n + 1 => fun ca X M0 P cc ok hp => by
    obtain ⟨hS, hSs⟩ := allSt n ca X M0 P cc ok hp
    have hE : ∀ (e : Expr) (i : E), cE n cc e = some i → SndEx ca X M0 P e i := fun e i h X3 => (allE n ca X M0 P X3 cc ok).1 e i h
    have hT : ∀ (e : Expr) (i : T), cT n cc e = some i → SndTx ca X M0 P e i := fun e i h X3 => (allE n ca X M0 P X3 cc ok).2.2 e i h
    refine ⟨fun e i h => ?_, fun es i h => ?_⟩
    · unfold cS at h
      split at h
      · obtain ⟨hm, h⟩ := if_some h
        split at h
        · rename_i h1
          cases h; exact st_expr hm (hE _ _ h1)
        · cases h
      · split at h
        · rename_i h1
          cases h; exact st_ret (hE _ _ h1)
        · cases h
      · obtain ⟨hm, h⟩ := if_some h
        split at h
        · rename_i h1 h2
          cases h; exact st_set ok h1 hm (hE _ _ h2)
        · cases h
      · obtain ⟨hm, h⟩ := if_some h
        rw [Bool.and_eq_true] at hm
        split at h
        · rename_i h1 h2 h3
          cases h; exact st_setIx hm.1 hm.2 (hE _ _ h1) (hE _ _ h2) (hE _ _ h3)
        · cases h
      · split at h
        · rename_i h1 h2 h3
          cases h; exact st_aug ok h1 h2 (hE _ _ h3)
        · cases h
      · split at h
        · rename_i h1 h2 h3
          cases h; exact st_if (hT _ _ h1) (hSs _ _ h2) (hSs _ _ h3)
        · cases h
      · split at h
        · rename_i h1 h2
          cases h; exact st_wh hp (hT _ _ h1) (hSs _ _ h2)
        · cases h
      · split at h
        · rename_i h1 h2 h3
          cases h
          obtain ⟨i1, i2⟩ := cI_ok (M0 := M0) ok h2
          exact st_for hp ok.hc i2 i1 (cTg_ok ok h1) (hSs _ _ h3)
        · cases h
      · cases h; exact st_pass
      · cases h; exact st_brk
      · cases h; exact st_cnt
      · cases h
    · unfold cSs at h
      split at h
      · rename_i e; cases e
      · cases h; exact sts_nil
      · rename_i e1
        cases e1
        split at h
        · rename_i h1 h2
          cases h; exact sts_cons (hS _ _ h1) (hSs _ _ h2)
        · cases h
end L3
end
section
set_option autoImplicit false
set_option linter.all false
set_option maxRecDepth 100000
/-! L3: a def by its body -/
namespace L3
open PySem L2 PyProof.Rows

/-- what the module's names stand for, up to the level k -/
structure GM (C : Ct) (mg : Str → Option Value) (base : Heap) (k : Nat) (P : Pr) (gl : List (Str × GR)) : Prop where
  fn : ∀ x i, gl.lookup x = some (.fn i) → ∃ j f fd ps, j ≤ k ∧ mg x = some (.ref f) ∧ PySem.W.keepIn C.K (.ref f) = true ∧ Binds C.K fd ps [] ∧ FnG C mg base j f fd ps (P.sp i)
  blt : ∀ x, gl.lookup x = some .blt → mg x = none
  con : ∀ x d, gl.lookup x = some (.con d) → ∃ u v, mg x = some u ∧ RelV v u ∧ ∀ H, RD C H d v
theorem GM.ok {ca : Nat → Addr} {X : Cx} {k : Nat} {P : Pr} {gl : List (Str × GR)} (g : GM (ct X ca) X.mg X.base k P gl) (r : Room k X.A) : GOk ca X P gl where
  fn := fun x i h => let ⟨j, f, fd, ps, hj, h1, h2, h3, h4⟩ := g.fn x i h; ⟨j, f, fd, ps, h1, h2, h3, r.mono hj, h4⟩
  blt := g.blt
  con := g.con
section
variable {Pg : Program} {w : World} {K : PySem.W.Frag} {ca : Nat → Addr} {mg : Str → Option Value} {base : Heap}
theorem rl_start {C : Ct} {H : Hp} {N : List Str} {ds : List D} {vs : List V} (rd : RDs C H ds vs) : RL C H (startL N.length ds) (L2.start N vs) := by
  have hl := rd.length
  refine ⟨by simp [startL, L2.start, hl], fun i d e => ?_⟩
  unfold startL at e
  by_cases h : i < ds.length
  · rw [List.getElem?_append_left (by simpa using h), List.getElem?_map] at e
    cases g : ds[i]? with
    | none => rw [g] at e; cases e
    | some d' =>
      rw [g] at e
      have e' : d' = d := by simpa using e
      subst e'
      obtain ⟨v, e1, r1⟩ := rd.get g
      refine ⟨v, ?_, r1⟩
      unfold L2.start
      rw [List.getElem?_append_left (by rw [List.length_map, ← hl]; exact h), List.getElem?_map, e1]
      rfl
  · rw [List.getElem?_append_right (by simp; omega)] at e
    rw [List.getElem?_replicate] at e
    split at e <;> cases e
theorem fng_of {f : Addr} {fd : FuncData} {x qual : Str} {st : Stmt} {N ps : List Str} {k n : Nat} {sp : Spec} {P : Pr} {gl : List (Str × GR)} {ir : Ss} (F : C8.Fun K x qual st f fd) (S : FnScope N ps (C8.fnScope st))
    (hir : cSs n ⟨N, C8.fnScope st, gl⟩ (C8.fnBody st) = some ir) (len : ∀ ds M Q X, sp ds M Q X → ds.length = ps.length) (hk : Keeps P sp N.length ir) (g : GM ⟨Pg, w, K, ca⟩ mg base k P gl) : FnG ⟨Pg, w, K, ca⟩ mg base (k + 1) f fd ps sp := by
  obtain ⟨oc, od, dV, kV, doc, pm, an, cdv, ct', osl, rfl, lk, hcd⟩ := F.ex
  refine ⟨len, fun A outer s H args us vs ds M Q X3 hr hg e0 hb r rd rm hsp => ?_⟩
  have hl : vs.length = ps.length := by rw [← rd.length]; exact len _ _ _ _ hsp
  have KX : K.In s.heap := e0.mod.kin.keeps fun b o e => (e0.bs b o e).1
  have lim : s.heap.NoLimit := e0.mod.nolimit.keeps fun b o e => (e0.bs b o e).1
  have hkind : ∀ y ∈ ps.zip us, (C8.fnScope st).names.lookup y.1 = some .local ∨ ((C8.fnScope st).names.lookup y.1 = some .cell ∧ ((cellsFrom (s.heap.objs.size + 1) (C8.fnScope st).names []).lookup y.1).isSome = true) := fun ⟨m, v⟩ hy => by
    rcases S.par m (List.of_mem_zip hy).1 with q | q
    · exact .inl q
    · exact .inr ⟨q, PySem.W.cellsFrom_some _ _ _ (.inl q)⟩
  refine codeAny_call_function hr.depth (KX _ _ lk) rfl S.co S.gen rfl (PySem.W.codeRec_of KX hcd) (hb _ _ _ _ ?_)
  refine wpAny_newFunctionEnv_cells S.kind hkind fun env he s1 x1 => ?_
  subst he
  refine ⟨lim.keeps x1.toInCall.keep, codeAny_func ?_⟩
  have I : Inv (cxOf C8.CX0 Pg w K mg base N qual (C8.fnScope st) f cdv A outer s H C8.E0) [] (L2.start N vs) H s1 := inv_start S hr.hd e0 hl r x1
  have I' : Inv (cxOf C8.CX0 Pg w K mg base N qual (C8.fnScope st) f cdv A outer s H C8.E0).nox [] (L2.start N vs) H s1 := I.wish _
  have rX : Room k (cxOf C8.CX0 Pg w K mg base N qual (C8.fnScope st) f cdv A outer s H C8.E0).nox.A := hr.deeper _
  have ok : Ok3 ca (cxOf C8.CX0 Pg w K mg base N qual (C8.fnScope st) f cdv A outer s H C8.E0).nox P ⟨N, C8.fnScope st, gl⟩ :=
    ⟨rfl, rfl, S.nd, GM.ok (X := (cxOf C8.CX0 Pg w K mg base N qual (C8.fnScope st) f cdv A outer s H C8.E0).nox) g rX, by have := rX.un; omega, hg, rfl, fun _ _ => rfl⟩
  have snd := (allSt n ca _ M P _ ok PassesOwn.never).2 _ _ hir (fun x _ M => X3 x M) [] s1 (L2.start N vs) H (startL N.length ds) M ⟨fun _ M => Q .non M, Q, fun _ _ => False, fun _ _ => False⟩ ⟨I', rl_start rd, rm, Stp.refl⟩ (hk ds M Q X3 hsp)
  refine wpAny_mono snd (fun fl s' hs => ?_) fun e s' hs => False.elim hs
  have fin : ∀ {σ3 : Lo} {σ' : L2.St} {H' : Hp} {M' : Mp} {v : V} {u : Value} {d : D}, I3 ⟨Pg, w, K, ca⟩ (cxOf C8.CX0 Pg w K mg base N qual (C8.fnScope st) f cdv A outer s H C8.E0).nox M [] σ3 M' σ' H' s' → RelV v u → RD ⟨Pg, w, K, ca⟩ H' d v → Q d M' → CE outer Pg w H s (QV ⟨Pg, w, K, ca⟩ H M Q) u s' :=
    fun {σ3 σ' H' M' v u d} J rv rd q => ⟨v, H', J.inv.os, J.inv.bare, J.inv.base, J.inv.hok, rv, d, M', J.hp, J.st, rd, q⟩
  cases fl with
  | ret u =>
    obtain ⟨d, v, σ3, M', σ', H', J, _, rv, rd', q⟩ := hs
    exact fin J rv rd' q
  | next =>
    obtain ⟨σ3, M', σ', H', J, _, q⟩ := hs
    exact fin (v := V.non) (u := Value.none) (d := .non) J rfl rfl q
  | brk =>
    obtain ⟨_, _, _, _, _, _, q⟩ := hs
    exact False.elim q
  | cont =>
    obtain ⟨_, _, _, _, _, _, q⟩ := hs
    exact False.elim q
end
end L3
end
section
set_option autoImplicit false
set_option linter.all false
set_option maxRecDepth 100000
/-! L3: the law's end -/
namespace L3
open PySem L2 PyProof.Rows PySem.Spec

theorem rds_ints {C : Ct} {H : Hp} : ∀ (ns : List Int), RDs C H (ns.map D.int) (ns.map V.int)
  | [] => rfl
  | n :: ns => ⟨.int n, ns.map V.int, rfl, rfl, rds_ints ns⟩
/-- the script's object alone -/
def Sole (a : Addr) (H : Hp) : Prop := ∀ b u, H b = some u → b = a ∧ ∃ ob xs, u = .frz ob (.lst xs)
section
variable {Pg : Program} {w : World} {K : PySem.W.Frag} {ca : Nat → Addr} {mg mb : Str → Option Value} {k : Nat} {fa a : Addr} {fd : FuncData} {x : Str} {sp : Spec} {s₁ : Shared} {vs : List Value} {ns : List Int}
theorem end_core {H : Hp} (hin : K.In s₁.heap) (gns : s₁.heap.Ns mainGlobals mg) (bns : s₁.heap.Ns builtinsNs mb) (bot : ∀ x : Str, x ≠ "__name__" → mb x = bootBuiltins x) (nl : s₁.heap.NoLimit) (ng : s₁.gens = #[])
    (ob : s₁.heap.get? a = some { cls := .type "list", data := .seq vs.toArray }) (room : Room k callerA)
    (F : ∀ base : Heap, K.In base → base.Ns mainGlobals mg → FnG ⟨Pg, w, K, ca⟩ mg base k fa fd [x] sp) (bnd : ∀ (s : Shared) (u : Value), BindsTo s fd ⟨[u], []⟩ [(x, u)])
    (law : ∀ Q X, (∀ M, Q (.bl true) M) → sp [.kl (ns.map .int)] (fun _ => none) Q X)
    (so : Sole a H) (sq : SqF K H a (ns.map V.int)) (hok : HOk Pg w H s₁.heap) (hK : H a ≠ none → K.lookup a = none) :
    codeAny (model Pg w) callerA (.call (.ref fa) ⟨[.ref a], []⟩) (fun r s' => r = .ok (.ret (.bool true)) ∧ OldK s₁.heap s'.heap ∧ s'.os = s₁.os ∧ AllBare s'.gens) s₁ := by
  have only : ∀ {b : Addr}, b ≠ a → H b = none := fun {b} hb => by
    cases q : H b with
    | none => rfl
    | some u => exact absurd (so b u q).1 hb
  have dict0 : ∀ {b : Addr} {o : Obj} {es : Array DictEntry} {ep : Nat}, s₁.heap.get? b = some o → o.data = .dict es ep → H b = none := fun {b o es ep} e dd => by
    by_cases hb : b = a
    · rw [hb, ob] at e
      cases e
      exact nomatch dd
    · exact only hb
  have nsT : ∀ {b : Addr} {m : Str → Option Value}, s₁.heap.Ns b m → (hidT s₁.heap H).Ns b m := fun {b m} z => by
    obtain ⟨o, es, ep, e, dd, rest⟩ := z
    exact ⟨o, es, ep, hidT_get e (dict0 e dd), dd, rest⟩
  have kT : K.In (hidT s₁.heap H) := fun b o e => by
    refine hidT_get (hin b o e) ?_
    by_cases hb : b = a
    · subst hb
      cases q : H b with
      | none => rfl
      | some u =>
        have z := hK (by rw [q]; exact nofun)
        rw [e] at z
        cases z
    · exact only hb
  have md : Mod K mg (hidT s₁.heap H) := ⟨kT, nsT gns, ⟨mb, nsT bns, bot⟩, by obtain ⟨mc, h1, h2⟩ := nl; exact ⟨mc, nsT h1, h2⟩⟩
  have env : Env0 Pg w K mg (hidT s₁.heap H) callerA [] s₁ H := ⟨rfl, md, fun b o => of_hidT, Nat.le_of_eq (hidT_size _ _), trivial, (fun b hb => nomatch hb), hok, .of_eq ng⟩
  have rdl : RDs ⟨Pg, w, K, ca⟩ H [.kl (ns.map .int)] [.ref a] := ⟨.ref a, [], rfl, ⟨a, ns.map V.int, rfl, sq, rds_ints ns⟩, rfl⟩
  have rm0 : RM ⟨Pg, w, K, ca⟩ H (fun _ => none) := fun _ _ e => nomatch e
  refine codeAny_mono ((F _ kT (nsT gns)).run callerA [] s₁ H ⟨[.ref a], []⟩ [.ref a] [.ref a] [.kl (ns.map .int)] (fun _ => none) (fun d _ => d = .bl true) (fun _ _ => False) room rfl env (bnd s₁ (.ref a)) (.cons rfl .nil) rdl rm0 (law _ _ fun _ => rfl)) fun r s' h => ?_
  match r, h with
  | .ok (.ret u), h =>
    obtain ⟨v, H', os, bare, un, hok', rv, d, M', _, _, rd, q⟩ := h
    subst q
    have ev : v = .bl true := rd
    subst ev
    obtain rfl : u = Value.bool true := rv
    refine ⟨rfl, OldK.of_keep fun b o e => ?_, os, bare⟩
    cases q : H b with
    | none => exact un.keep b o e q (fun z => nomatch z) (by simp)
    | some u =>
      obtain ⟨_, ob2, xs, e2⟩ := so b u q
      subst e2
      have e3 := (hok b _ q).1
      rw [e] at e3
      cases e3
      exact (hok' b _ (un.frzs b _ _ q)).1
theorem law_call3 (hin : K.In s₁.heap) (gns : s₁.heap.Ns mainGlobals mg) (bns : s₁.heap.Ns builtinsNs mb) (bot : ∀ x : Str, x ≠ "__name__" → mb x = bootBuiltins x) (nl : s₁.heap.NoLimit) (ng : s₁.gens = #[])
    (ob : s₁.heap.get? a = some { cls := .type "list", data := .seq vs.toArray }) (hi : IntsAre vs ns) (hl : ns.length ≤ sizeLine) (room : Room k callerA)
    (F : ∀ base : Heap, K.In base → base.Ns mainGlobals mg → FnG ⟨Pg, w, K, ca⟩ mg base k fa fd [x] sp) (bnd : ∀ (s : Shared) (u : Value), BindsTo s fd ⟨[u], []⟩ [(x, u)])
    (law : ∀ Q X, (∀ M, Q (.bl true) M) → sp [.kl (ns.map .int)] (fun _ => none) Q X) :
    codeAny (model Pg w) callerA (.call (.ref fa) ⟨[.ref a], []⟩) (fun r s' => r = .ok (.ret (.bool true)) ∧ OldK s₁.heap s'.heap ∧ s'.os = s₁.os ∧ AllBare s'.gens) s₁ := by
  have rv := vals_ints hi
  have len := hi.length
  cases e : K.lookup a with
  | some o =>
    have e1 := hin a o e
    rw [ob] at e1
    cases e1
    exact end_core (H := fun _ => none) hin gns bns bot nl ng ob room F bnd law (fun _ _ z => nomatch z) (.inr ⟨_, vs.toArray, _, e, rfl, rfl, rfl, by rw [List.size_toArray, len]; exact hl, by simpa using rv⟩) (fun _ _ z => nomatch z) fun z => absurd rfl z
  | none =>
    refine end_core (H := fun b => if b = a then some (.frz { cls := .type "list", data := .seq vs.toArray } (.lst (ns.map V.int))) else none) hin gns bns bot nl ng ob room F bnd law (fun b u z => ?_) (.inl ⟨_, if_pos rfl⟩) (fun b u z => ?_) fun _ => e
    · by_cases hb : b = a
      · simp only [if_pos hb] at z
        cases z
        exact ⟨hb, _, _, rfl⟩
      · simp only [if_neg hb] at z
        cases z
    · by_cases hb : b = a
      · simp only [if_pos hb] at z
        cases z
        subst hb
        exact ⟨ob, by rw [List.length_map]; exact hl, vs, _, rv, ob⟩
      · simp only [if_neg hb] at z
        cases z
end
/-- what the head leaves -/
theorem walk3 {l : PySem.W.OpenLaw} {n k : Nat} {q : Program} {loose : List Str} {XP : (Str → Option Value) → Heap → Prop} {YP : World → Heap → Prop} {d : DefRec} {x : Str}
    (hn : l.most = some n) (hn2 : n ≤ sizeLine) (hdf : d.params.defaults = []) (room : Room k callerA)
    (F : ∀ (w : World) (mg : Str → Option Value) (fa : Addr) (h : Heap), YP w h → h.Ns mainGlobals mg → mg d.name = some (.ref fa) →
      ∃ (K : PySem.W.Frag) (fd : FuncData) (ca : Nat → Addr) (sp : Spec), K.In h ∧ (∀ (s : Shared) (u : Value), BindsTo s fd ⟨[u], []⟩ [(x, u)]) ∧ (∀ base : Heap, K.In base → base.Ns mainGlobals mg → FnG ⟨l.prog, w, K, ca⟩ mg base k fa fd [x] sp) ∧
        ∀ ns : List Int, ns.length ≤ n → ∀ Q X, (∀ M, Q (.bl true) M) → sp [.kl (ns.map .int)] (fun _ => none) Q X) :
    PySem.W.WalkO q loose XP YP l.row.toRowW d [] (fun f vs => PySem.call f vs) := by
  refine Att.attach_call hn hdf fun w s₀ s₁ mg mb fa o pm cd doc a vs ns G Y ho hd hcd hmg hobj hints hlen hg => ?_
  obtain ⟨K, fd, ca, sp, hin, h1, h2, h3⟩ := F w mg fa _ Y G.T.g hmg
  exact law_call3 hin G.T.g G.T.b G.T.builtins G.T.nolimit hg hobj hints (Nat.le_trans hlen hn2) room h2 h1 (h3 ns hlen)
end L3
end
section
set_option autoImplicit false
set_option linter.all false
set_option maxRecDepth 100000
/-! L3: the head's facts: defs, free names, constants -/
namespace L3
open PySem L2 PyProof.Rows PySem.Spec

abbrev Al3 : Type := He.AlD × Bool
def obs3 (n : Nat) (fa : List He.Fa) (fn : List He.DefD) (ex : PySem.W.Frag → Bool) (g : Addr → Option Obj) : Al3 := (He.obsD fa fn (He.frG g (He.asD g n)), ex (He.frG g (He.asD g n)))
structure Says3 (fa : List He.Fa) (fn : List He.DefD) (ex : PySem.W.Frag → Bool) (K : PySem.W.Frag) : Prop where
  d : He.SaysD fa fn K
  x : ex K = true
def hook3 (n : Nat) (fa : List He.Fa) (fn : List He.DefD) (ex : PySem.W.Frag → Bool) : PySem.W.Hook where
  α := Al3
  obs := fun s => obs3 n fa fn ex s.heap.get?
  val := fun _ => (He.valD fn, true)
  says := fun _ h => ∃ K : PySem.W.Frag, K.In h ∧ Says3 fa fn ex K
  of := fun _ _ e => ⟨_, He.frG_in, (Prod.mk.inj e).1, (Prod.mk.inj e).2⟩
  keeps := fun _ _ _ ⟨K, hK, c⟩ k => ⟨K, PySem.W.Frag.In.keeps hK k, c⟩
theorem obs3_eq {n : Nat} {fa : List He.Fa} {fn : List He.DefD} {ex : PySem.W.Frag → Bool} {g : Addr → Option Obj} {s : Shared} (h : ∀ a, g a = s.heap.get? a) : obs3 n fa fn ex g = (hook3 n fa fn ex).obs s := by
  have e : g = s.heap.get? := funext h
  subst e
  rfl
/-- a tuple of plain values by a module's name -/
def DvD : He.Dv → Option D
  | .non => some .non
  | .bl b => some (.bl b)
  | .int i => some (.int i)
  | .str x => some (.str x)
  | _ => none
def conT (K : PySem.W.Frag) (x : Str) (vs : List He.Dv) : Bool := He.tupB K x vs && (He.Fa.glo x).ok K
theorem dvs_rd {C : Ct} {H : Hp} : ∀ {vs : List He.Dv} {ds : List D}, vs.map DvD = ds.map some → RDs C H ds (vs.map (He.Dv.v C.K))
  | [], [], _ => rfl
  | [], _ :: _, h => by cases h
  | _ :: _, [], h => by cases h
  | v :: vs, d :: ds, h => by
    have h' : DvD v :: vs.map DvD = some d :: ds.map some := h
    injection h' with h1 h2
    refine ⟨v.v C.K, vs.map (He.Dv.v C.K), rfl, ?_, dvs_rd h2⟩
    cases v <;> first | (cases h1; rfl) | cases h1
theorem con_ok {C : Ct} {h : Heap} {mg : Str → Option Value} {x : Str} {vs : List He.Dv} {ds : List D} (X : C.K.In h) (G : h.Ns mainGlobals mg) (c : conT C.K x vs = true) (e : vs.map DvD = ds.map some) : ∃ u v, mg x = some u ∧ RelV v u ∧ ∀ H, RD C H (.tup ds) v := by
  obtain ⟨c1, c2⟩ := He.ba c
  exact ⟨_, .ref (He.ga C.K x), He.glo_ok X G c2, rfl, fun H => ⟨_, _, rfl, He.tupB_ok c1 H, dvs_rd e⟩⟩
/-- a def of the top as the layer takes it -/
def defD (x : Str) (st : Stmt) : He.DefD := ⟨(x, none), x, x, C8.fnArgs st, C8.fnBody st, C8.fnScope st, [], []⟩
theorem fun_of {K : PySem.W.Frag} {x : Str} {st : Stmt} {f : Addr} {fd : FuncData} (F : FunD K x x (C8.fnArgs st) (C8.fnBody st) (C8.fnScope st) [] [] f fd) : C8.Fun K x x st f fd := by
  obtain ⟨oc, od, dV, kV, doc, pm, an, cdv, ct, osl, e, lk, hcd, _, _⟩ := F.ex
  exact ⟨oc, od, dV, kV, doc, pm, an, cdv, ct, osl, e, lk, hcd⟩
end L3
end
section
set_option autoImplicit false
set_option linter.all false
set_option maxRecDepth 100000
/-! L3: a law from its defs' promises -/
namespace L3
open PySem L2 PyProof.Rows PySem.Spec

/-- a def of the module: name, statement, its names by slot, its parameters, its body in the small language -/
structure DefP where
  x : Str
  st : Stmt
  N : List Str
  ps : List Str
  ir : Ss
def glk (gl : List (Str × GR)) (ds : List DefP) (i : Nat) : List (Str × GR) := ((ds.take i).zipIdx.map fun p => (p.1.x, GR.fn p.2)) ++ gl
def gOther (gl : List (Str × GR)) : Bool := gl.all fun p => match p.2 with
  | .blt => true
  | .con _ => true
  | _ => false
/-- what stands in the text alone -/
structure StP (P : Pr) (gl : List (Str × GR)) (ds : List DefP) (i : Nat) (d : DefP) : Prop where
  sc : FnScope d.N d.ps (C8.fnScope d.st)
  ir : cSs 200 ⟨d.N, C8.fnScope d.st, glk gl ds i⟩ (C8.fnBody d.st) = some d.ir
  len : ∀ xs M Q X, P.sp i xs M Q X → xs.length = d.ps.length
  ok : Keeps P (P.sp i) d.N.length d.ir
  bd : ∀ (kV doc pm : Value) (an : Option Addr) (cdv ct : Value) (us : List Value), us.length = d.ps.length → bindArgs (PySem.W.fnOf d.x d.x (C8.fnArgs d.st) (C8.fnBody d.st) (C8.fnScope d.st) .none kV doc pm an cdv ct) ⟨us, []⟩ = pure (d.ps.zip us)
def AllD (p : Nat → DefP → Prop) : Nat → List DefP → Prop
  | _, [] => True
  | i, d :: ds => p i d ∧ AllD p (i + 1) ds
theorem AllD.get {p : Nat → DefP → Prop} : ∀ {ds : List DefP} {j i : Nat} {d : DefP}, AllD p j ds → ds[i]? = some d → p (j + i) d
  | [], j, i, d, h, e => by simp at e
  | d' :: ds, j, 0, d, h, e => by
    have : d' = d := by simpa using e
    subst this
    exact h.1
  | d' :: ds, j, i + 1, d, h, e => by
    have := AllD.get (i := i) (d := d) h.2 (by simpa using e)
    rw [show j + (i + 1) = j + 1 + i by omega]
    exact this
/-! ### constants -/
def dvOf : D → He.Dv
  | .non => .non
  | .bl b => .bl b
  | .int i => .int i
  | .str x => .str x
  | _ => .ty ""
def D.flat0 : D → Bool
  | .non => true
  | .bl _ => true
  | .int _ => true
  | .str _ => true
  | _ => false
def conX (K : PySem.W.Frag) (x : Str) : D → Bool
  | .int i => (He.Fa.int x i).ok K
  | .str z => (He.Fa.str x z).ok K
  | .tup ds => conT K x (ds.map dvOf) && ds.all D.flat0
  | _ => false
theorem dv_all : ∀ {ds : List D}, ds.all D.flat0 = true → (ds.map dvOf).map DvD = ds.map some
  | [], _ => rfl
  | d :: ds, h => by
    have h' : (d.flat0 && ds.all D.flat0) = true := h
    obtain ⟨h1, h2⟩ := He.ba h'
    show DvD (dvOf d) :: (ds.map dvOf).map DvD = some d :: ds.map some
    rw [dv_all h2]
    congr 1
    cases d <;> first | rfl | cases h1
theorem conX_ok {C : Ct} {h : Heap} {mg : Str → Option Value} {x : Str} {d : D} (X : C.K.In h) (G : h.Ns mainGlobals mg) (c : conX C.K x d = true) : ∃ u v, mg x = some u ∧ RelV v u ∧ ∀ H, RD C H d v := by
  cases d with
  | int i =>
    obtain ⟨t, e⟩ := He.int_ok X G c
    exact ⟨_, .int i, e, ⟨t, rfl⟩, fun _ => rfl⟩
  | str z =>
    obtain ⟨t, e⟩ := He.str_ok X G c
    exact ⟨_, .str z, e, ⟨t, rfl⟩, fun _ => rfl⟩
  | tup ds =>
    obtain ⟨c1, c2⟩ := He.ba c
    exact con_ok X G c1 (dv_all c2)
  | _ => cases c
/-! ### what is asked of the head -/
def freeOf (gl : List (Str × GR)) : List Str := gl.filterMap fun p => match p.2 with
  | .blt => some p.1
  | _ => none
def faOf (gl : List (Str × GR)) (ds : List DefP) : List He.Fa := ds.map (fun d => He.Fa.glo d.x) ++ (freeOf gl).map He.Fa.free
def fnOf (ds : List DefP) : List He.DefD := ds.map fun d => defD d.x d.st
def exOf (gl : List (Str × GR)) (K : PySem.W.Frag) : Bool := gl.all fun p => match p.2 with
  | .con d => conX K p.1 d
  | _ => true
abbrev hookOf (gl : List (Str × GR)) (ds : List DefP) : PySem.W.Hook := hook3 4 (faOf gl ds) (fnOf ds) (exOf gl)
def obOf (gl : List (Str × GR)) (ds : List DefP) (s : PySem.W.SharedT) : Al3 := obs3 4 (faOf gl ds) (fnOf ds) (exOf gl) (HandSHeadRun.getT s)
theorem obOf_eq (gl : List (Str × GR)) (ds : List DefP) (s : PySem.W.SharedT) : obOf gl ds s = (hookOf gl ds).obs s.abs := obs3_eq (HandSHeadRun.getT_eq s)
section
variable {Pg : Program} {w : World} {K : PySem.W.Frag} {ca : Nat → Addr} {mg : Str → Option Value} {base h : Heap} {P : Pr} {gl : List (Str × GR)} {ds : List DefP}
theorem fact_in {fa : List He.Fa} {fn : List He.DefD} {f : He.Fa} (c : He.SaysD fa fn K) (h : f ∈ fa) : f.ok K = true := by
  obtain ⟨i, e⟩ := List.getElem?_of_mem h
  exact c.fact i e
theorem glo_of (X : K.In h) (G : h.Ns mainGlobals mg) (c : Says3 (faOf gl ds) (fnOf ds) (exOf gl) K) {i : Nat} {d : DefP} (e : ds[i]? = some d) : mg d.x = some (.ref (He.ga K d.x)) :=
  He.glo_ok X G (fact_in c.d (List.mem_append_left _ (List.mem_map.mpr ⟨d, List.mem_of_getElem? e, rfl⟩)))
theorem def_of (c : Says3 (faOf gl ds) (fnOf ds) (exOf gl) K) {i : Nat} {d : DefP} (e : ds[i]? = some d) : ∃ fd, FunD K d.x d.x (C8.fnArgs d.st) (C8.fnBody d.st) (C8.fnScope d.st) [] [] (He.ga K d.x) fd := by
  obtain ⟨fd, F⟩ := c.d.def_ i (d := defD d.x d.st) (by show (ds.map fun d => defD d.x d.st)[i]? = _; rw [List.getElem?_map, e]; rfl)
  exact ⟨fd, F⟩
/-- every def keeps its promise, level by level -/
theorem all_fng (X : K.In h) (G : h.Ns mainGlobals mg) (c : Says3 (faOf gl ds) (fnOf ds) (exOf gl) K) (go : gOther gl = true) (S : AllD (StP P gl ds) 0 ds) : ∀ (i : Nat) (d : DefP) (fd : FuncData), ds[i]? = some d → FunD K d.x d.x (C8.fnArgs d.st) (C8.fnBody d.st) (C8.fnScope d.st) [] [] (He.ga K d.x) fd →
    FnG ⟨Pg, w, K, ca⟩ mg base (i + 1) (He.ga K d.x) fd d.ps (P.sp i) := by
  intro i
  induction i using Nat.strongRecOn with
  | ind i ih =>
    intro d fd e F
    have s := S.get e
    rw [Nat.zero_add] at s
    refine fng_of (fun_of F) s.sc s.ir s.len s.ok ⟨fun x j hx => ?_, fun x hx => ?_, fun x v hx => ?_⟩
    · -- a def below
      have hm := PySem.mem_of_lookup hx
      rcases List.mem_append.mp hm with hm | hm
      · obtain ⟨⟨d', j'⟩, hm2, ee⟩ := List.mem_map.mp hm
        cases ee
        have h1 := List.mem_zipIdx hm2
        obtain ⟨_, hlt, e'⟩ := h1
        have hji : j' < i := by
          have := hlt
          rw [List.length_take] at this
          omega
        have e2 : ds[j']? = some d' := by
          rw [e']
          rw [List.getElem_take]
          simp only [Nat.sub_zero]
          exact List.getElem?_eq_getElem _
        obtain ⟨fd', F'⟩ := def_of c e2
        have s' := S.get e2
        rw [Nat.zero_add] at s'
        exact ⟨j' + 1, _, fd', d'.ps, by omega, glo_of X G c e2, F'.kp, F'.bindsN s'.bd, ih j' hji d' fd' e2 F'⟩
      · have := List.all_eq_true.mp go _ hm
        cases this
    · have hm := PySem.mem_of_lookup hx
      rcases List.mem_append.mp hm with hm | hm
      · obtain ⟨⟨d', j'⟩, _, ee⟩ := List.mem_map.mp hm
        cases ee
      · exact He.free_ok X G (fact_in c.d (List.mem_append_right _ (List.mem_map.mpr ⟨x, List.mem_filterMap.mpr ⟨_, hm, rfl⟩, rfl⟩)))
    · have hm := PySem.mem_of_lookup hx
      rcases List.mem_append.mp hm with hm | hm
      · obtain ⟨⟨d', j'⟩, _, ee⟩ := List.mem_map.mp hm
        cases ee
      · have h1 := List.all_eq_true.mp (show (gl.all fun p => match p.2 with
          | .con d => conX K p.1 d
          | _ => true) = true from c.x) _ hm
        exact conX_ok (C := ⟨Pg, w, K, ca⟩) X G h1
end
/-- the law: its head's call case -/
theorem hc3 {l : PySem.W.OpenLaw} {n m : Nat} {q : Program} {loose : List Str} {XP : (Str → Option Value) → Heap → Prop} {dr : DefRec} {x : Str} {P : Pr} {gl : List (Str × GR)} {ds : List DefP} {dl : DefP}
    (hn : l.most = some n) (hn2 : n ≤ sizeLine) (hdf : dr.params.defaults = []) (go : gOther gl = true) (S : AllD (StP P gl ds) 0 ds) (hl : ds[m]? = some dl) (hp : dl.ps = [x]) (hx : dr.name = dl.x) (room : Room (m + 1) callerA)
    (fin : ∀ ns : List Int, ns.length ≤ n → ∀ Q X, (∀ M, Q (.bl true) M) → P.sp m [.kl (ns.map .int)] (fun _ => none) Q X) :
    PySem.W.WalkO q loose XP (hookOf gl ds).says l.row.toRowW dr [] (fun f vs => PySem.call f vs) := by
  refine walk3 (x := x) (k := m + 1) hn hn2 hdf room fun w mg fa h Y G hmg => ?_
  obtain ⟨K, KX, c⟩ := Y
  obtain ⟨fd, F⟩ := def_of c hl
  rw [hx] at hmg
  have e : some (Value.ref fa) = some (.ref (He.ga K dl.x)) := hmg.symm.trans (glo_of KX G c hl)
  cases e
  have s := S.get hl
  rw [Nat.zero_add] at s
  refine ⟨K, fd, fun _ => 0, P.sp m, KX, fun s' u => ?_, fun base _ _ => ?_, fin⟩
  · have b := FunD.bindsA (ps := dl.ps) F s.bd s' [u] (by rw [hp]; rfl)
    rw [hp] at b
    exact b
  · have g := all_fng (Pg := l.prog) (w := w) (ca := fun _ => 0) (base := base) KX G c go S m dl fd hl F
    rw [hp] at g
    exact g
end L3
end
section
set_option autoImplicit false
set_option linter.all false
set_option maxRecDepth 100000
/-! L3: facts for the readings: loops by an invariant, text of data -/
namespace L3
open PySem

section
variable {t : Tg} {G : Mp → Prop} {K : Ends}
/-- a for loop by what holds ahead of each turn -/
theorem forL_inv {body : Ends → Lo → Mp → Prop} {xs : List D} {σ : Lo} {M : Mp} (I : Nat → Lo → Mp → Prop) (h0 : I 0 σ M)
    (step : ∀ (i : Nat) (x : D) (σ : Lo) (M : Mp) (nx : Lo → Mp → Prop), xs[i]? = some x → I i σ M → (∀ σ' M', I (i + 1) σ' M' → nx σ' M') → G M ∧ wpTg t x σ M fun σ1 => body ⟨nx, K.rt, K.nx, nx⟩ σ1 M)
    (done : ∀ σ M, I xs.length σ M → G M ∧ K.nx σ M) : forL t body G K xs σ M := by
  have go : ∀ (l : List D) (i : Nat) (σ : Lo) (M : Mp), xs.drop i = l → i ≤ xs.length → I i σ M → forL t body G K l σ M := by
    intro l
    induction l with
    | nil =>
      intro i σ M e hi h
      have : xs.length ≤ i := List.drop_eq_nil_iff.mp e
      have e2 : i = xs.length := by omega
      subst e2
      exact done σ M h
    | cons x l ih =>
      intro i σ M e hi h
      have hx : xs[i]? = some x := by
        have := congrArg List.head? e
        rw [List.head?_drop] at this
        exact this
      have hl : xs.drop (i + 1) = l := by
        have := congrArg List.tail e
        rw [List.tail_drop] at this
        exact this
      have hlt : i < xs.length := (List.getElem?_eq_some_iff.mp hx).1
      exact step i x σ M _ hx h fun σ' M' h' => ih (i + 1) σ' M' hl hlt h'
  exact go xs 0 σ M rfl (Nat.zero_le _) h0
/-- a while loop by a measure -/
theorem whL_inv {c : Lo → Mp → (Bool → Mp → Prop) → Prop} {body : Ends → Lo → Mp → Prop} {σ : Lo} {M : Mp} (I : Nat → Lo → Mp → Prop) (n : Nat) (h0 : I n σ M)
    (step : ∀ (n : Nat) (σ : Lo) (M : Mp) (nx : Lo → Mp → Prop), I n σ M → (∀ m σ' M', m < n → I m σ' M' → nx σ' M') → c σ M fun b M1 => if b = true then body ⟨nx, K.rt, K.nx, nx⟩ σ M1 else K.nx σ M1) : ∃ n, whL c body K n σ M := by
  have go : ∀ (f n : Nat) (σ : Lo) (M : Mp), n < f → I n σ M → whL c body K f σ M := by
    intro f
    induction f with
    | zero => intro n σ M h; omega
    | succ f ih => intro n σ M h hI; exact step n σ M _ hI fun m σ' M' hm h' => ih m σ' M' (by omega) h'
  exact ⟨n + 1, go (n + 1) n σ M (by omega) h0⟩
theorem whL_any {c : Lo → Mp → (Bool → Mp → Prop) → Prop} {body : Ends → Lo → Mp → Prop} {σ : Lo} {M : Mp} (h : ∃ n, whL c body K n σ M) : ∃ n, whL c body K n σ M := h
end
theorem dRange_get' {lo hi : Int} {i : Nat} {d : D} (h : (dRange lo hi)[i]? = some d) : i < (hi - lo).toNat ∧ d = .int (lo + (i : Int)) := by
  unfold dRange at h
  rw [List.getElem?_map] at h
  by_cases hi' : i < (hi - lo).toNat
  · rw [List.getElem?_range hi'] at h
    cases h
    exact ⟨hi', rfl⟩
  · rw [List.getElem?_eq_none (by simp; omega)] at h
    cases h
theorem dRange_len {lo hi : Int} : (dRange lo hi).length = (hi - lo).toNat := by simp [dRange]
theorem mset_mset {M : Mp} {a : Addr} {o p : MO} : mset (mset M a o) a p = mset M a p := by
  funext b
  by_cases h : b = a
  · subst h; rw [mset_same, mset_same]
  · rw [mset_ne h, mset_ne h, mset_ne h]
theorem eqv_refl (d : D) : d.eqv d = true := by
  have : ∀ k : NestedKey, NestedKey.beq k k = true := fun k => NestedKey.beq_self k
  exact this d.key
theorem eqv_int (i j : Int) : (D.int i).eqv (.int j) = decide (i = j) := by
  show NestedKey.beq (.num i) (.num j) = _
  simp [NestedKey.beq]
theorem wpEq_int {i j : Int} {M : Mp} {k : Bool → Prop} : wpEq (.int i) (.int j) M k ↔ k (decide (i = j)) := by
  show (_ ∧ k ((D.int i).eqv (.int j))) ↔ _
  rw [eqv_int]
  exact ⟨fun h => h.2, fun h => ⟨⟨rfl, rfl⟩, h⟩⟩
theorem wpEq_same {x : D} {M : Mp} {k : Bool → Prop} (hx : ∀ a, x ≠ .ref a) (hf : x.flat = true) (h : k true) : wpEq x x M k := by
  have e := eqv_refl x
  cases x with
  | ref a => exact absurd rfl (hx a)
  | _ => exact ⟨⟨hf, hf⟩, by rw [e]; exact h⟩
section
variable {P : Pr} {M : Mp} {Q : Post} {k : Bool → Prop} {i j : Int} {x y : Str} {b c : Bool} {d e : D} {ds es : List D} {σ : Lo} {kl : Lo → Prop} {R : ItR}
theorem w_add : wpBin .add (.int i) (.int j) M Q ↔ Q (.int (i + j)) M := Iff.rfl
theorem w_addS : wpBin .add (.str x) (.str y) M Q ↔ x.length + y.length ≤ sizeLine ∧ Q (.str (x ++ y)) M := Iff.rfl
theorem w_addT : wpBin .add (.tup ds) (.tup es) M Q ↔ ds.length + es.length ≤ sizeLine ∧ Q (.tup (ds ++ es)) M := Iff.rfl
theorem w_sub : wpBin .sub (.int i) (.int j) M Q ↔ Q (.int (i - j)) M := Iff.rfl
theorem w_mul : wpBin .mul (.int i) (.int j) M Q ↔ MulOk i j ∧ Q (.int (i * j)) M := Iff.rfl
theorem w_fdiv : wpBin .fdiv (.int i) (.int j) M Q ↔ (0 < j ∧ j < 1073741824) ∧ Q (.int (i / j)) M := Iff.rfl
theorem w_mod : wpBin .mod (.int i) (.int j) M Q ↔ 0 < j ∧ Q (.int (i % j)) M := Iff.rfl
theorem w_pow : wpBin .pow (.int i) (.int j) M Q ↔ (0 ≤ j ∧ j ≤ 1000000 ∧ i.natAbs < 2 ^ 64) ∧ Q (.int (i ^ j.toNat)) M := Iff.rfl
theorem w_iadd : wpInp .add (.int i) (.int j) M Q ↔ Q (.int (i + j)) M := Iff.rfl
theorem w_isub : wpInp .sub (.int i) (.int j) M Q ↔ Q (.int (i - j)) M := Iff.rfl
theorem w_neg : wpUn .neg (.int i) M Q ↔ Q (.int (-i)) M := Iff.rfl
theorem w_lt : wpCmp .lt (.int i) (.int j) M k ↔ k (decide (i < j)) := Iff.rfl
theorem w_le : wpCmp .le (.int i) (.int j) M k ↔ k (decide (i ≤ j)) := Iff.rfl
theorem w_gt : wpCmp .gt (.int i) (.int j) M k ↔ k (decide (j < i)) := Iff.rfl
theorem w_ge : wpCmp .ge (.int i) (.int j) M k ↔ k (decide (j ≤ i)) := Iff.rfl
theorem w_eq : wpCmp .eq (.int i) (.int j) M k ↔ k (decide (i = j)) := wpEq_int (M := M)
theorem w_ne : wpCmp .ne (.int i) (.int j) M k ↔ k (!decide (i = j)) := wpEq_int (M := M) (k := fun b => k (!b))
theorem w_in : wpCmp .isIn d e M k ↔ wpIn d e M k := Iff.rfl
theorem w_nin : wpCmp .notIn d e M k ↔ wpIn d e M fun b => k (!b) := Iff.rfl
theorem w_tb : truthy (.bl b) M k ↔ k b := Iff.rfl
theorem w_ti : truthy (.int i) M k ↔ k (i != 0) := Iff.rfl
theorem w_tt : truthy (.tup ds) M k ↔ k (!ds.isEmpty) := Iff.rfl
theorem w_ix0 : wpIx (.tup (d :: ds)) (.int 0) M Q ↔ Q d M := by
  show (∃ c, atD (d :: ds) 0 = some c ∧ Q c M) ↔ _
  simp [atD]
theorem w_ix1 {a : D} : wpIx (.tup (a :: d :: ds)) (.int 1) M Q ↔ Q d M := by
  show (∃ c, atD (a :: d :: ds) 1 = some c ∧ Q c M) ↔ _
  simp [atD]
theorem w_ix2 {a a' : D} : wpIx (.tup (a :: a' :: d :: ds)) (.int 2) M Q ↔ Q d M := by
  show (∃ c, atD (a :: a' :: d :: ds) 2 = some c ∧ Q c M) ↔ _
  simp [atD]
theorem w_lenT : wpBlt .len [.tup ds] M Q ↔ Q (.int ds.length) M := Iff.rfl
theorem w_lenK : wpBlt .len [.kl ds] M Q ↔ Q (.int ds.length) M := Iff.rfl
theorem w_int : wpBlt .int [.int i] M Q ↔ Q (.int i) M := Iff.rfl
theorem w_max : wpBlt .max [.int i, .int j] M Q ↔ Q (.int (if j > i then j else i)) M := Iff.rfl
theorem w_min : wpBlt .min [.int i, .int j] M Q ↔ Q (.int (if j < i then j else i)) M := Iff.rfl
theorem w_repr : wpBlt .repr [d] M Q ↔ ∃ p, Deep M d p ∧ p.showable = true ∧ p.shown.length ≤ sizeLine ∧ p.depth ≤ 40 ∧ Q (.str p.shown) M := Iff.rfl
theorem w_rng1 : wpIt .range [.int i] M R ↔ small62 i ∧ R (dRange 0 i) (fun _ => True) M id := Iff.rfl
theorem w_rng2 : wpIt .range [.int i, .int j] M R ↔ (small62 i ∧ small62 j) ∧ R (dRange i j) (fun _ => True) M id := Iff.rfl
theorem w_one {n : Nat} : wpTg (.one n) d σ M kl ↔ kl (σ.set n (some d)) := Iff.rfl
theorem w_ixL {a : Addr} {ds : List D} (h : M a = some (.lst ds)) : wpIx (.ref a) (.int i) M Q ↔ ∃ d, atD ds i = some d ∧ Q d M := by
  simp only [wpIx, h]
theorem w_ixK : wpIx (.kl ds) (.int i) M Q ↔ ∃ d, atD ds i = some d ∧ Q d M := Iff.rfl
theorem w_lenL {a : Addr} {ds : List D} (h : M a = some (.lst ds)) : wpBlt .len [.ref a] M Q ↔ Q (.int ds.length) M := by
  simp only [wpBlt, h]
theorem w_app {a : Addr} {ds : List D} (h : M a = some (.lst ds)) : wpMth .append (.ref a) [d] M Q ↔ ds.length < sizeLine ∧ Q .non (mset M a (.lst (ds ++ [d]))) := by
  simp only [wpMth, h]
theorem w_rcvL {a : Addr} {ds : List D} (h : M a = some (.lst ds)) : rcv (.ref a) M = some .lst := by
  simp only [rcv, h]
theorem w_set {a : Addr} {ds : List D} {v : D} {km : Mp → Prop} (h : M a = some (.lst ds)) : wpSetIx (.ref a) (.int i) v M km ↔ (0 ≤ i ∧ i < ds.length) ∧ km (mset M a (.lst (ds.set i.toNat v))) := by
  simp only [wpSetIx, h]
theorem w_rev {a : Addr} {ds : List D} (h : M a = some (.lst ds)) : wpIt .reversed [.ref a] M R ↔ R ds.reverse (fun M' => M' a = some (.lst ds)) M id := by
  simp only [wpIt, h]
theorem w_itL {a : Addr} {ds : List D} (h : M a = some (.lst ds)) : wpIt .plain [.ref a] M R ↔ R ds (fun M' => M' a = some (.lst ds)) M id := by
  simp only [wpIt, h]
end
/-- as text -/
def Told (p : PyData) : Prop := p.showable = true ∧ p.shown.length ≤ sizeLine ∧ p.depth ≤ 40
end L3
end
section
set_option Elab.async false
set_option linter.all false
set_option maxRecDepth 100000
set_option maxHeartbeats 0
/-! the data of law_k01_weights_exact -/
namespace K01
open PySem L2 PyProof.Rows PySem.Spec L3
def top (i : Nat) : Stmt := PySem.Challenge.pw_vatlink_k01_weights_exact.main.body.getD i (.Pass ⟨0, 0, 0, 0⟩)
def b__law_lowest_0 : Ss := (.cons (.ite (.and (.val (.cmp .eq (.bin .mod (.blt .int (.cons (.var 0) .nil)) (.int 2)) (.int 0))) (.val (.cmp .gt (.var 1) (.int 0)))) (.cons (.set (.one 0) (.bin .fdiv (.var 0) (.int 2))) (.cons (.set (.one 1) (.bin .sub (.var 1) (.int 1))) .nil)) .nil) .nil)
def b__law_lowest : Ss := (.cons (.ite (.val (.cmp .eq (.var 0) (.int 0))) (.cons (.ret (.tup (.cons (.int 0) (.cons (.int 0) .nil)))) .nil) .nil) (.cons (.for (.one 2) .range (.cons (.int 700) .nil) b__law_lowest_0) (.cons (.ret (.tup (.cons (.var 0) (.cons (.var 1) .nil)))) .nil)))
def p__law_lowest : DefP := ⟨"_law_lowest", top 15, ["_law_numerator", "_law_exponent", "_law_turn"], ["_law_numerator", "_law_exponent"], b__law_lowest⟩
def b__law_draw : Ss := (.cons (.set (.one 2) (.ix (.var 0) (.int 1))) (.cons (.setIx (.var 0) (.int 1) (.bin .add (.var 2) (.int 1))) (.cons (.ite (.val (.cmp .lt (.var 2) (.blt .len (.cons (.ix (.var 0) (.int 0)) .nil)))) (.cons (.ret (.bin .mod (.blt .int (.cons (.ix (.ix (.var 0) (.int 0)) (.var 2)) .nil)) (.var 1))) .nil) .nil) (.cons (.ret (.bin .mod (.blt .int (.cons (.bin .add (.bin .mul (.var 2) (.int 7)) (.int 3)) .nil)) (.var 1))) .nil))))
def p__law_draw : DefP := ⟨"_law_draw", top 14, ["_law_box", "_law_many", "_law_at"], ["_law_box", "_law_many"], b__law_draw⟩
def b__law_weight_0 : Ss := (.cons (.set (.one 1) (.bin .add (.bin .mul (.var 1) (.int 1000)) (.call 1 (.cons (.var 0) (.cons (.int 1000) .nil))))) .nil)
def b__law_weight : Ss := (.cons (.set (.one 1) (.int 0)) (.cons (.for (.one 2) .range (.cons (.call 1 (.cons (.var 0) (.cons (.int 14) .nil))) .nil) b__law_weight_0) (.cons (.ret (.call 0 (.cons (.var 1) (.cons (.call 1 (.cons (.var 0) (.cons (.int 201) .nil))) .nil)))) .nil)))
def p__law_weight : DefP := ⟨"_law_weight", top 16, ["_law_box", "_law_numerator", "_law_k"], ["_law_box"], b__law_weight⟩
def b__law_same : Ss := (.cons (.ret (.cmp .eq (.blt .repr (.cons (.var 0) .nil)) (.blt .repr (.cons (.var 1) .nil)))) .nil)
def p__law_same : DefP := ⟨"_law_same", top 12, ["_law_actual", "_law_due"], ["_law_actual", "_law_due"], b__law_same⟩
def b__law_cell : Ss := (.cons (.ite (.val (.cmp .lt (.var 1) (.blt .len (.cons (.var 0) .nil)))) (.cons (.ret (.ix (.var 0) (.var 1))) .nil) .nil) (.cons (.ret (.int 0)) .nil))
def p__law_cell : DefP := ⟨"_law_cell", top 10, ["_law_script", "_law_k"], ["_law_script", "_law_k"], b__law_cell⟩
def b__law_digits_0 : Ss := (.cons (.ite (.val (.cmp .gt (.var 5) (.int 0))) (.cons (.expr (.mth (.var 3) .append (.cons (.bin .mod (.blt .int (.cons (.var 5) .nil)) (.int 1000)) .nil))) (.cons (.set (.one 5) (.bin .fdiv (.var 5) (.int 1000))) .nil)) .nil) .nil)
def b__law_digits_1 : Ss := (.cons (.set (.one 7) (.bin .mod (.blt .int (.cons (.bin .add (.bin .add (.bin .mul (.var 7) (.int 16807)) (.bin .mul (.int 7) (.var 6))) (.int 1)) .nil)) (.int 2147483647))) (.cons (.expr (.mth (.var 3) .append (.cons (.bin .mod (.blt .int (.cons (.bin .fdiv (.var 7) (.int 997)) .nil)) (.int 1000)) .nil))) .nil))
def b__law_digits_2 : Ss := (.cons (.set (.one 5) (.call 4 (.cons (.var 0) (.cons (.var 4) .nil)))) (.cons (.ite (.val (.cmp .lt (.var 5) (.int 0))) (.cons (.set (.one 5) (.bin .sub (.int 1) (.bin .mul (.int 2) (.var 5)))) .nil) .nil) (.cons (.ite (.val (.cmp .ge (.var 5) (.bin .pow (.int 10) (.int 18)))) (.cons (.for (.one 6) .range (.cons (.int 60) .nil) b__law_digits_0) .nil) (.cons (.set (.one 7) (.bin .mod (.blt .int (.cons (.bin .add (.bin .add (.bin .mul (.var 5) (.int 48271)) (.bin .mul (.var 4) (.int 69621))) (.int 11)) .nil)) (.int 2147483647))) (.cons (.for (.one 6) .range (.cons (.int 12) .nil) b__law_digits_1) .nil))) .nil)))
def b__law_digits : Ss := (.cons (.set (.one 3) (.lst .nil)) (.cons (.for (.one 4) .range (.cons (.var 1) (.cons (.var 2) .nil)) b__law_digits_2) (.cons (.ret (.var 3)) .nil)))
def p__law_digits : DefP := ⟨"_law_digits", top 13, ["_law_script", "_law_first", "_law_last", "_law_digits_here", "_law_k", "_law_cell_here", "_law_turn", "_law_seed"], ["_law_script", "_law_first", "_law_last"], b__law_digits⟩
def b_lowest_0 : Ss := (.cons (.set (.one 0) (.bin .fdiv (.var 0) (.int 2))) (.cons (.aug 1 .sub (.int 1)) .nil))
def b_lowest : Ss := (.cons (.ite (.val (.cmp .eq (.var 0) (.int 0))) (.cons (.ret (.con (.tup [(.int 0), (.int 0)]))) .nil) .nil) (.cons (.wh (.and (.val (.cmp .gt (.var 1) (.int 0))) (.val (.cmp .eq (.bin .mod (.var 0) (.int 2)) (.int 0)))) b_lowest_0) (.cons (.ret (.tup (.cons (.var 0) (.cons (.var 1) .nil)))) .nil)))
def p_lowest : DefP := ⟨"lowest", top 3, ["numerator", "exponent"], ["numerator", "exponent"], b_lowest⟩
def b_half : Ss := (.cons (.ret (.call 6 (.cons (.ix (.var 0) (.int 0)) (.cons (.bin .add (.ix (.var 0) (.int 1)) (.int 1)) .nil)))) .nil)
def p_half : DefP := ⟨"half", top 4, ["weight"], ["weight"], b_half⟩
def b_raised_0 : Ss := (.cons (.set (.one 2) (.bin .mul (.var 2) (.int 2))) .nil)
def b_raised : Ss := (.cons (.set (.one 2) (.ix (.var 0) (.int 0))) (.cons (.for (.one 3) .range (.cons (.bin .sub (.var 1) (.ix (.var 0) (.int 1))) .nil) b_raised_0) (.cons (.ret (.var 2)) .nil)))
def p_raised : DefP := ⟨"raised", top 5, ["weight", "exponent", "numerator", "_"], ["weight", "exponent"], b_raised⟩
def b_plus : Ss := (.cons (.set (.one 2) (.blt .max (.cons (.ix (.var 0) (.int 1)) (.cons (.ix (.var 1) (.int 1)) .nil)))) (.cons (.ret (.call 6 (.cons (.bin .add (.call 8 (.cons (.var 0) (.cons (.var 2) .nil))) (.call 8 (.cons (.var 1) (.cons (.var 2) .nil)))) (.cons (.var 2) .nil)))) .nil))
def p_plus : DefP := ⟨"plus", top 6, ["one", "other", "exponent"], ["one", "other"], b_plus⟩
def b__law_doubled_0 : Ss := (.cons (.set (.one 0) (.bin .mul (.var 0) (.int 2))) .nil)
def b__law_doubled : Ss := (.cons (.for (.one 2) .range (.cons (.var 1) .nil) b__law_doubled_0) (.cons (.ret (.var 0)) .nil))
def p__law_doubled : DefP := ⟨"_law_doubled", top 17, ["_law_number", "_law_times", "_law_turn"], ["_law_number", "_law_times"], b__law_doubled⟩
def b__law_sum : Ss := (.cons (.ret (.call 0 (.cons (.bin .add (.call 10 (.cons (.ix (.var 0) (.int 0)) (.cons (.ix (.var 1) (.int 1)) .nil))) (.call 10 (.cons (.ix (.var 1) (.int 0)) (.cons (.ix (.var 0) (.int 1)) .nil)))) (.cons (.bin .add (.ix (.var 0) (.int 1)) (.ix (.var 1) (.int 1))) .nil)))) .nil)
def p__law_sum : DefP := ⟨"_law_sum", top 18, ["_law_one", "_law_other"], ["_law_one", "_law_other"], b__law_sum⟩
def b_minus : Ss := (.cons (.set (.one 2) (.blt .max (.cons (.ix (.var 0) (.int 1)) (.cons (.ix (.var 1) (.int 1)) .nil)))) (.cons (.ret (.call 6 (.cons (.bin .sub (.call 8 (.cons (.var 0) (.cons (.var 2) .nil))) (.call 8 (.cons (.var 1) (.cons (.var 2) .nil)))) (.cons (.var 2) .nil)))) .nil))
def p_minus : DefP := ⟨"minus", top 7, ["one", "other", "exponent"], ["one", "other"], b_minus⟩
def b_law_0 : Ss := (.cons (.set (.one 5) (.call 9 (.cons (.var 5) (.cons (.var 8) .nil)))) .nil)
def b_law_1 : Ss := (.cons (.set (.one 5) (.call 7 (.cons (.var 5) .nil))) (.cons (.expr (.mth (.var 6) .append (.cons (.var 5) .nil))) .nil))
def b_law : Ss := (.cons (.set (.one 1) (.lst (.cons (.call 5 (.cons (.var 0) (.cons (.int 0) (.cons (.int 30) .nil)))) (.cons (.int 0) .nil)))) (.cons (.ite (.or (.val (.cmp .ne (.con (.tup [(.int 1), (.int 0)])) (.tup (.cons (.int 1) (.cons (.int 0) .nil))))) (.val (.cmp .ne (.con (.tup [(.int 0), (.int 0)])) (.tup (.cons (.int 0) (.cons (.int 0) .nil)))))) (.cons (.ret (.bl false)) .nil) .nil) (.cons (.set (.one 2) (.call 2 (.cons (.var 1) .nil))) (.cons (.set (.one 3) (.call 2 (.cons (.var 1) .nil))) (.cons (.set (.one 4) (.call 2 (.cons (.var 1) .nil))) (.cons (.ite (.or (.not (.val (.call 3 (.cons (.call 7 (.cons (.var 2) .nil)) (.cons (.call 0 (.cons (.ix (.var 2) (.int 0)) (.cons (.bin .add (.ix (.var 2) (.int 1)) (.int 1)) .nil))) .nil))))) (.not (.val (.call 3 (.cons (.call 9 (.cons (.var 2) (.cons (.var 3) .nil))) (.cons (.call 11 (.cons (.var 2) (.cons (.var 3) .nil))) .nil)))))) (.cons (.ret (.bl false)) .nil) .nil) (.cons (.ite (.or (.not (.val (.call 3 (.cons (.call 9 (.cons (.call 9 (.cons (.var 2) (.cons (.var 3) .nil))) (.cons (.var 4) .nil))) (.cons (.call 9 (.cons (.var 4) (.cons (.call 9 (.cons (.var 3) (.cons (.var 2) .nil))) .nil))) .nil))))) (.not (.val (.call 3 (.cons (.call 12 (.cons (.call 9 (.cons (.var 2) (.cons (.var 3) .nil))) (.cons (.var 3) .nil))) (.cons (.var 2) .nil)))))) (.cons (.ret (.bl false)) .nil) .nil) (.cons (.ite (.or (.not (.val (.call 3 (.cons (.call 12 (.cons (.var 2) (.cons (.var 2) .nil))) (.cons (.con (.tup [(.int 0), (.int 0)])) .nil))))) (.or (.not (.val (.call 3 (.cons (.call 9 (.cons (.var 2) (.cons (.con (.tup [(.int 0), (.int 0)])) .nil))) (.cons (.var 2) .nil))))) (.not (.val (.call 3 (.cons (.call 12 (.cons (.var 2) (.cons (.con (.tup [(.int 0), (.int 0)])) .nil))) (.cons (.var 2) .nil))))))) (.cons (.ret (.bl false)) .nil) .nil) (.cons (.set (.one 5) (.var 2)) (.cons (.set (.one 6) (.lst .nil)) (.cons (.for (.one 7) .range (.cons (.bin .add (.int 1) (.call 1 (.cons (.var 1) (.cons (.int 60) .nil)))) .nil) b_law_1) (.cons (.for (.one 8) .reversed (.cons (.var 6) .nil) b_law_0) (.cons (.ret (.call 3 (.cons (.var 5) (.cons (.var 2) .nil)))) .nil)))))))))))))
def p_law : DefP := ⟨"law", top 19, ["_law_script", "_law_box", "_law_a", "_law_b", "_law_c", "_law_rest", "_law_parts", "_law_turn", "_law_part"], ["_law_script"], b_law⟩
def ds : List DefP := [p__law_lowest, p__law_draw, p__law_weight, p__law_same, p__law_cell, p__law_digits, p_lowest, p_half, p_raised, p_plus, p__law_doubled, p__law_sum, p_minus, p_law]
def gl : List (Str × GR) := [("ONE", .con (.tup [(.int 1), (.int 0)])), ("ZERO", .con (.tup [(.int 0), (.int 0)])), ("int", .blt), ("len", .blt), ("max", .blt), ("range", .blt), ("repr", .blt), ("reversed", .blt)]
-- places: _law_lowest=0 _law_draw=1 _law_weight=2 _law_same=3 _law_cell=4 _law_digits=5 lowest=6 half=7 raised=8 plus=9 _law_doubled=10 _law_sum=11 minus=12 law=13
-- loose: "ONE", "ZERO", "lowest", "half", "raised", "plus", "minus", "_law_is_integer", "_law_cell", "_law_list_is", "_law_same", "_law_digits", "_law_draw", "_law_lowest", "_law_weight", "_law_doubled", "_law_sum" law at 19

theorem sc__law_lowest : FnScope p__law_lowest.N p__law_lowest.ps (C8.fnScope p__law_lowest.st) := C8.fnScope_by (by decide +kernel)
theorem ir__law_lowest : cSs 200 ⟨p__law_lowest.N, C8.fnScope p__law_lowest.st, glk gl ds 0⟩ (C8.fnBody p__law_lowest.st) = some p__law_lowest.ir := by kernel_rfl
theorem bd__law_lowest : ∀ (kV doc pm : Value) (an : Option Addr) (cdv ct : Value) (us : List Value), us.length = p__law_lowest.ps.length → bindArgs (PySem.W.fnOf p__law_lowest.x p__law_lowest.x (C8.fnArgs p__law_lowest.st) (C8.fnBody p__law_lowest.st) (C8.fnScope p__law_lowest.st) .none kV doc pm an cdv ct) ⟨us, []⟩ = pure (p__law_lowest.ps.zip us) := fun _ _ _ _ _ _ us hl => match us, hl with | [_, _], _ => rfl
theorem sc__law_draw : FnScope p__law_draw.N p__law_draw.ps (C8.fnScope p__law_draw.st) := C8.fnScope_by (by decide +kernel)
theorem ir__law_draw : cSs 200 ⟨p__law_draw.N, C8.fnScope p__law_draw.st, glk gl ds 1⟩ (C8.fnBody p__law_draw.st) = some p__law_draw.ir := by kernel_rfl
theorem bd__law_draw : ∀ (kV doc pm : Value) (an : Option Addr) (cdv ct : Value) (us : List Value), us.length = p__law_draw.ps.length → bindArgs (PySem.W.fnOf p__law_draw.x p__law_draw.x (C8.fnArgs p__law_draw.st) (C8.fnBody p__law_draw.st) (C8.fnScope p__law_draw.st) .none kV doc pm an cdv ct) ⟨us, []⟩ = pure (p__law_draw.ps.zip us) := fun _ _ _ _ _ _ us hl => match us, hl with | [_, _], _ => rfl
theorem sc__law_weight : FnScope p__law_weight.N p__law_weight.ps (C8.fnScope p__law_weight.st) := C8.fnScope_by (by decide +kernel)
theorem ir__law_weight : cSs 200 ⟨p__law_weight.N, C8.fnScope p__law_weight.st, glk gl ds 2⟩ (C8.fnBody p__law_weight.st) = some p__law_weight.ir := by kernel_rfl
theorem bd__law_weight : ∀ (kV doc pm : Value) (an : Option Addr) (cdv ct : Value) (us : List Value), us.length = p__law_weight.ps.length → bindArgs (PySem.W.fnOf p__law_weight.x p__law_weight.x (C8.fnArgs p__law_weight.st) (C8.fnBody p__law_weight.st) (C8.fnScope p__law_weight.st) .none kV doc pm an cdv ct) ⟨us, []⟩ = pure (p__law_weight.ps.zip us) := fun _ _ _ _ _ _ us hl => match us, hl with | [_], _ => rfl
theorem sc__law_same : FnScope p__law_same.N p__law_same.ps (C8.fnScope p__law_same.st) := C8.fnScope_by (by decide +kernel)
theorem ir__law_same : cSs 200 ⟨p__law_same.N, C8.fnScope p__law_same.st, glk gl ds 3⟩ (C8.fnBody p__law_same.st) = some p__law_same.ir := by kernel_rfl
theorem bd__law_same : ∀ (kV doc pm : Value) (an : Option Addr) (cdv ct : Value) (us : List Value), us.length = p__law_same.ps.length → bindArgs (PySem.W.fnOf p__law_same.x p__law_same.x (C8.fnArgs p__law_same.st) (C8.fnBody p__law_same.st) (C8.fnScope p__law_same.st) .none kV doc pm an cdv ct) ⟨us, []⟩ = pure (p__law_same.ps.zip us) := fun _ _ _ _ _ _ us hl => match us, hl with | [_, _], _ => rfl
theorem sc__law_cell : FnScope p__law_cell.N p__law_cell.ps (C8.fnScope p__law_cell.st) := C8.fnScope_by (by decide +kernel)
theorem ir__law_cell : cSs 200 ⟨p__law_cell.N, C8.fnScope p__law_cell.st, glk gl ds 4⟩ (C8.fnBody p__law_cell.st) = some p__law_cell.ir := by kernel_rfl
theorem bd__law_cell : ∀ (kV doc pm : Value) (an : Option Addr) (cdv ct : Value) (us : List Value), us.length = p__law_cell.ps.length → bindArgs (PySem.W.fnOf p__law_cell.x p__law_cell.x (C8.fnArgs p__law_cell.st) (C8.fnBody p__law_cell.st) (C8.fnScope p__law_cell.st) .none kV doc pm an cdv ct) ⟨us, []⟩ = pure (p__law_cell.ps.zip us) := fun _ _ _ _ _ _ us hl => match us, hl with | [_, _], _ => rfl
theorem sc__law_digits : FnScope p__law_digits.N p__law_digits.ps (C8.fnScope p__law_digits.st) := C8.fnScope_by (by decide +kernel)
theorem ir__law_digits : cSs 200 ⟨p__law_digits.N, C8.fnScope p__law_digits.st, glk gl ds 5⟩ (C8.fnBody p__law_digits.st) = some p__law_digits.ir := by kernel_rfl
theorem bd__law_digits : ∀ (kV doc pm : Value) (an : Option Addr) (cdv ct : Value) (us : List Value), us.length = p__law_digits.ps.length → bindArgs (PySem.W.fnOf p__law_digits.x p__law_digits.x (C8.fnArgs p__law_digits.st) (C8.fnBody p__law_digits.st) (C8.fnScope p__law_digits.st) .none kV doc pm an cdv ct) ⟨us, []⟩ = pure (p__law_digits.ps.zip us) := fun _ _ _ _ _ _ us hl => match us, hl with | [_, _, _], _ => rfl
theorem sc_lowest : FnScope p_lowest.N p_lowest.ps (C8.fnScope p_lowest.st) := C8.fnScope_by (by decide +kernel)
theorem ir_lowest : cSs 200 ⟨p_lowest.N, C8.fnScope p_lowest.st, glk gl ds 6⟩ (C8.fnBody p_lowest.st) = some p_lowest.ir := by kernel_rfl
theorem bd_lowest : ∀ (kV doc pm : Value) (an : Option Addr) (cdv ct : Value) (us : List Value), us.length = p_lowest.ps.length → bindArgs (PySem.W.fnOf p_lowest.x p_lowest.x (C8.fnArgs p_lowest.st) (C8.fnBody p_lowest.st) (C8.fnScope p_lowest.st) .none kV doc pm an cdv ct) ⟨us, []⟩ = pure (p_lowest.ps.zip us) := fun _ _ _ _ _ _ us hl => match us, hl with | [_, _], _ => rfl
theorem sc_half : FnScope p_half.N p_half.ps (C8.fnScope p_half.st) := C8.fnScope_by (by decide +kernel)
theorem ir_half : cSs 200 ⟨p_half.N, C8.fnScope p_half.st, glk gl ds 7⟩ (C8.fnBody p_half.st) = some p_half.ir := by kernel_rfl
theorem bd_half : ∀ (kV doc pm : Value) (an : Option Addr) (cdv ct : Value) (us : List Value), us.length = p_half.ps.length → bindArgs (PySem.W.fnOf p_half.x p_half.x (C8.fnArgs p_half.st) (C8.fnBody p_half.st) (C8.fnScope p_half.st) .none kV doc pm an cdv ct) ⟨us, []⟩ = pure (p_half.ps.zip us) := fun _ _ _ _ _ _ us hl => match us, hl with | [_], _ => rfl
theorem sc_raised : FnScope p_raised.N p_raised.ps (C8.fnScope p_raised.st) := C8.fnScope_by (by decide +kernel)
theorem ir_raised : cSs 200 ⟨p_raised.N, C8.fnScope p_raised.st, glk gl ds 8⟩ (C8.fnBody p_raised.st) = some p_raised.ir := by kernel_rfl
theorem bd_raised : ∀ (kV doc pm : Value) (an : Option Addr) (cdv ct : Value) (us : List Value), us.length = p_raised.ps.length → bindArgs (PySem.W.fnOf p_raised.x p_raised.x (C8.fnArgs p_raised.st) (C8.fnBody p_raised.st) (C8.fnScope p_raised.st) .none kV doc pm an cdv ct) ⟨us, []⟩ = pure (p_raised.ps.zip us) := fun _ _ _ _ _ _ us hl => match us, hl with | [_, _], _ => rfl
theorem sc_plus : FnScope p_plus.N p_plus.ps (C8.fnScope p_plus.st) := C8.fnScope_by (by decide +kernel)
theorem ir_plus : cSs 200 ⟨p_plus.N, C8.fnScope p_plus.st, glk gl ds 9⟩ (C8.fnBody p_plus.st) = some p_plus.ir := by kernel_rfl
theorem bd_plus : ∀ (kV doc pm : Value) (an : Option Addr) (cdv ct : Value) (us : List Value), us.length = p_plus.ps.length → bindArgs (PySem.W.fnOf p_plus.x p_plus.x (C8.fnArgs p_plus.st) (C8.fnBody p_plus.st) (C8.fnScope p_plus.st) .none kV doc pm an cdv ct) ⟨us, []⟩ = pure (p_plus.ps.zip us) := fun _ _ _ _ _ _ us hl => match us, hl with | [_, _], _ => rfl
theorem sc__law_doubled : FnScope p__law_doubled.N p__law_doubled.ps (C8.fnScope p__law_doubled.st) := C8.fnScope_by (by decide +kernel)
theorem ir__law_doubled : cSs 200 ⟨p__law_doubled.N, C8.fnScope p__law_doubled.st, glk gl ds 10⟩ (C8.fnBody p__law_doubled.st) = some p__law_doubled.ir := by kernel_rfl
theorem bd__law_doubled : ∀ (kV doc pm : Value) (an : Option Addr) (cdv ct : Value) (us : List Value), us.length = p__law_doubled.ps.length → bindArgs (PySem.W.fnOf p__law_doubled.x p__law_doubled.x (C8.fnArgs p__law_doubled.st) (C8.fnBody p__law_doubled.st) (C8.fnScope p__law_doubled.st) .none kV doc pm an cdv ct) ⟨us, []⟩ = pure (p__law_doubled.ps.zip us) := fun _ _ _ _ _ _ us hl => match us, hl with | [_, _], _ => rfl
theorem sc__law_sum : FnScope p__law_sum.N p__law_sum.ps (C8.fnScope p__law_sum.st) := C8.fnScope_by (by decide +kernel)
theorem ir__law_sum : cSs 200 ⟨p__law_sum.N, C8.fnScope p__law_sum.st, glk gl ds 11⟩ (C8.fnBody p__law_sum.st) = some p__law_sum.ir := by kernel_rfl
theorem bd__law_sum : ∀ (kV doc pm : Value) (an : Option Addr) (cdv ct : Value) (us : List Value), us.length = p__law_sum.ps.length → bindArgs (PySem.W.fnOf p__law_sum.x p__law_sum.x (C8.fnArgs p__law_sum.st) (C8.fnBody p__law_sum.st) (C8.fnScope p__law_sum.st) .none kV doc pm an cdv ct) ⟨us, []⟩ = pure (p__law_sum.ps.zip us) := fun _ _ _ _ _ _ us hl => match us, hl with | [_, _], _ => rfl
theorem sc_minus : FnScope p_minus.N p_minus.ps (C8.fnScope p_minus.st) := C8.fnScope_by (by decide +kernel)
theorem ir_minus : cSs 200 ⟨p_minus.N, C8.fnScope p_minus.st, glk gl ds 12⟩ (C8.fnBody p_minus.st) = some p_minus.ir := by kernel_rfl
theorem bd_minus : ∀ (kV doc pm : Value) (an : Option Addr) (cdv ct : Value) (us : List Value), us.length = p_minus.ps.length → bindArgs (PySem.W.fnOf p_minus.x p_minus.x (C8.fnArgs p_minus.st) (C8.fnBody p_minus.st) (C8.fnScope p_minus.st) .none kV doc pm an cdv ct) ⟨us, []⟩ = pure (p_minus.ps.zip us) := fun _ _ _ _ _ _ us hl => match us, hl with | [_, _], _ => rfl
theorem sc_law : FnScope p_law.N p_law.ps (C8.fnScope p_law.st) := C8.fnScope_by (by decide +kernel)
theorem ir_law : cSs 200 ⟨p_law.N, C8.fnScope p_law.st, glk gl ds 13⟩ (C8.fnBody p_law.st) = some p_law.ir := by kernel_rfl
theorem bd_law : ∀ (kV doc pm : Value) (an : Option Addr) (cdv ct : Value) (us : List Value), us.length = p_law.ps.length → bindArgs (PySem.W.fnOf p_law.x p_law.x (C8.fnArgs p_law.st) (C8.fnBody p_law.st) (C8.fnScope p_law.st) .none kV doc pm an cdv ct) ⟨us, []⟩ = pure (p_law.ps.zip us) := fun _ _ _ _ _ _ us hl => match us, hl with | [_], _ => rfl
end K01
end
section
set_option Elab.async false
set_option linter.all false
set_option maxRecDepth 100000
set_option maxHeartbeats 0
namespace K01
open PySem L2 PyProof.Rows PySem.Spec L3
abbrev R : PySem.W.OpenRow := PySem.W.OpenLaw.row PySem.Challenge.rw_vatlink_k01_weights_exact
def loose : List Str := ["ONE", "ZERO", "lowest", "half", "raised", "plus", "minus", "_law_is_integer", "_law_cell", "_law_list_is", "_law_same", "_law_digits", "_law_draw", "_law_lowest", "_law_weight", "_law_doubled", "_law_sum"]
theorem run (w : World) : HandSHeadRun.RunEq R (PySem.W.view R.prog [19]) (hookOf gl ds) (obOf gl ds) 4000 loose w := by
  intro os
  kernel_rfl
end K01
end
section
set_option autoImplicit false
set_option linter.all false
/-! k01: the numbers -/
namespace K01

/-- a pair brought to its lowest form -/
def low : Int → Nat → Int × Nat
  | n, 0 => (n, 0)
  | n, e + 1 => if n % 2 = 0 then low (n / 2) e else (n, e + 1)
theorem low_two (n : Int) (e : Nat) : low (2 * n) (e + 1) = low n e := by
  rw [low, if_pos (by omega), show 2 * n / 2 = n by omega]
theorem low_pow (n : Int) (e : Nat) : ∀ k : Nat, low (n * 2 ^ k) (e + k) = low n e
  | 0 => by simp
  | k + 1 => by
    have : n * 2 ^ (k + 1) = 2 * (n * 2 ^ k) := by rw [Int.pow_succ, ← Int.mul_assoc, Int.mul_comm]
    rw [this, ← Nat.add_assoc, low_two, low_pow n e k]
theorem low_zero : ∀ e : Nat, low 0 e = (0, 0)
  | 0 => rfl
  | e + 1 => by
    unfold low
    rw [if_pos (by decide)]
    exact low_zero e
theorem low_even {n : Int} {e : Nat} (h : n % 2 = 0) : low n (e + 1) = low (n / 2) e := by
  rw [low, if_pos h]
theorem low_odd {n : Int} {e : Nat} (h : ¬ n % 2 = 0) : low n e = (n, e) := by
  cases e with
  | zero => rfl
  | succ e => rw [low, if_neg h]
def T : Nat := 1000
/-- the value on a common scale -/
def sg (n : Int) (e : Nat) : Int := n * 2 ^ (1000 - e)
/-- the lowest form of a value -/
def cn (s : Int) : Int × Nat := low s 1000
theorem low_cn {n : Int} {e : Nat} (h : e ≤ 1000) : low n e = cn (sg n e) := by
  unfold cn sg
  have := low_pow n e (1000 - e)
  rw [show e + (1000 - e) = 1000 by omega] at this
  exact this.symm
theorem low_le : ∀ (e : Nat) (n : Int), (low n e).2 ≤ e
  | 0, n => Nat.le_refl _
  | e + 1, n => by
    unfold low
    split
    · exact Nat.le_succ_of_le (low_le e _)
    · exact Nat.le_refl _
theorem low_val : ∀ (e d : Nat) (n : Int), (low n e).1 * 2 ^ (e + d - (low n e).2) = n * 2 ^ d
  | 0, d, n => by simp [low]
  | e + 1, d, n => by
    unfold low
    split
    · rename_i h
      have h1 := low_val e (d + 1) (n / 2)
      rw [show e + 1 + d = e + (d + 1) by omega, h1, Int.pow_succ]
      rw [Int.mul_comm (2 ^ d) 2, ← Int.mul_assoc, show n / 2 * 2 = n by omega]
    · show n * 2 ^ (e + 1 + d - (e + 1)) = _
      rw [show e + 1 + d - (e + 1) = d by omega]
theorem cn_le (s : Int) : (cn s).2 ≤ 1000 := low_le 1000 s
theorem sg_cn (s : Int) : sg (cn s).1 (cn s).2 = s := by
  have := low_val 1000 0 s
  simpa [sg, cn] using this
theorem two_pos (k : Nat) : (0 : Int) < 2 ^ k := Int.pow_pos (by decide)
theorem two_ge (k : Nat) : (1 : Int) ≤ 2 ^ k := two_pos k
/-- the numerator is no greater than the value -/
theorem cn_small (s : Int) : (cn s).1.natAbs ≤ s.natAbs := by
  have h := congrArg Int.natAbs (sg_cn s)
  unfold sg at h
  rw [Int.natAbs_mul] at h
  have h2 : 1 ≤ ((2 : Int) ^ (1000 - (cn s).2)).natAbs := by
    have := two_ge (1000 - (cn s).2)
    omega
  calc (cn s).1.natAbs = (cn s).1.natAbs * 1 := (Nat.mul_one _).symm
    _ ≤ (cn s).1.natAbs * ((2 : Int) ^ (1000 - (cn s).2)).natAbs := Nat.mul_le_mul_left _ h2
    _ = s.natAbs := h
theorem cn_inj {s : Int} : cn (sg (cn s).1 (cn s).2) = cn s := by rw [sg_cn]
theorem cn_zero : cn 0 = (0, 0) := low_zero 1000
theorem cn_nonneg {s : Int} (h : 0 ≤ s) : 0 ≤ (cn s).1 := by
  have h1 := sg_cn s
  unfold sg at h1
  have h2 := two_pos (1000 - (cn s).2)
  refine Int.not_lt.mp fun h3 => ?_
  have := Int.mul_neg_of_neg_of_pos h3 h2
  omega
/-- raised to a common exponent -/
theorem sg_raise {n : Int} {e E : Nat} (h : e ≤ E) (hE : E ≤ 1000) : sg (n * 2 ^ (E - e)) E = sg n e := by
  unfold sg
  rw [Int.mul_assoc, ← Int.pow_add, show E - e + (1000 - E) = 1000 - e by omega]
theorem sg_add {a b : Int} {e : Nat} : sg (a + b) e = sg a e + sg b e := Int.add_mul ..
theorem sg_sub {a b : Int} {e : Nat} : sg (a - b) e = sg a e - sg b e := Int.sub_mul ..
theorem sg_up {n : Int} {e k : Nat} (h : e + k ≤ 1000) : sg (n * 2 ^ k) (e + k) = sg n e := by
  unfold sg
  rw [Int.mul_assoc, ← Int.pow_add, show k + (1000 - (e + k)) = 1000 - e by omega]
theorem sg_half {n : Int} {e : Nat} (h : e + 1 ≤ 1000) : 2 * sg n (e + 1) = sg n e := by
  unfold sg
  rw [show 1000 - e = (1000 - (e + 1)) + 1 by omega, Int.pow_succ, ← Int.mul_assoc, Int.mul_comm 2, Int.mul_assoc, Int.mul_comm 2]
end K01
end
section
set_option autoImplicit false
set_option linter.all false
set_option maxRecDepth 100000
/-! k01: promises and readings -/
namespace K01
open L3
open PySem (Addr Str PyData)

def pr (x : Int × Nat) : D := .tup [.int x.1, .int x.2]
/-- a box: its list of ints, its place -/
def BoxAt (M : Mp) (b d : Addr) (xs : List Int) (at_ : Nat) : Prop := M b = some (.lst [.ref d, .int at_]) ∧ M d = some (.lst (xs.map .int)) ∧ b ≠ d
def Box (M : Mp) (b : Addr) : Prop := ∃ d xs at_, BoxAt M b d xs at_
/-- all but b stays -/
def But (b : Addr) (M M' : Mp) : Prop := ∀ c, c ≠ b → M' c = M c
theorem But.trans {b : Addr} {M M1 M2 : Mp} (h : But b M M1) (h2 : But b M1 M2) : But b M M2 := fun c hc => (h2 c hc).trans (h c hc)
def Told2 (d : D) (e : D) (M : Mp) : Prop := ∃ p, Deep M d p ∧ Deep M e p ∧ p.showable = true ∧ p.shown.length ≤ PySem.sizeLine ∧ p.depth ≤ 40
def sp0 : L3.Spec := fun xs M Q _ => ∃ (n : Int) (e : Nat), xs = [.int n, .int e] ∧ e ≤ 700 ∧ Q (pr (low n e)) M
def sp1 : L3.Spec := fun xs M Q _ => ∃ (b : Addr) (m : Int), xs = [.ref b, .int m] ∧ 0 < m ∧ Box M b ∧ ∀ r M', 0 ≤ r → r < m → Box M' b → But b M M' → Q (.int r) M'
def sp2 : L3.Spec := fun xs M Q _ => ∃ (b : Addr), xs = [.ref b] ∧ Box M b ∧ ∀ s M', 0 ≤ s → s < 2 ^ 1130 → (cn s).2 ≤ 200 → Box M' b → But b M M' → Q (pr (cn s)) M'
def sp3 : L3.Spec := fun xs M Q _ => ∃ d e, xs = [d, e] ∧ Told2 d e M ∧ Q (.bl true) M
def sp4 : L3.Spec := fun xs M Q _ => ∃ (ns : List Int) (k : Nat), xs = [.kl (ns.map .int), .int k] ∧ ∀ n, Q (.int n) M
def sp5 : L3.Spec := fun xs M Q _ => ∃ (ns : List Int), xs = [.kl (ns.map .int), .int 0, .int 30] ∧ ∀ (d : Addr) (ys : List Int) (M' : Mp), M d = none → M' d = some (.lst (ys.map .int)) → But d M M' → Q (.ref d) M'
def sp6 : L3.Spec := fun xs M Q _ => ∃ (n : Int) (e : Nat), xs = [.int n, .int e] ∧ Q (pr (low n e)) M
def sp7 : L3.Spec := fun xs M Q _ => ∃ x : Int × Nat, xs = [pr x] ∧ Q (pr (low x.1 (x.2 + 1))) M
def sp8 : L3.Spec := fun xs M Q _ => ∃ (x : Int × Nat) (E : Nat), xs = [pr x, .int E] ∧ x.2 ≤ E ∧ E ≤ 10000 ∧ Q (.int (x.1 * 2 ^ (E - x.2))) M
def sp9 : L3.Spec := fun xs M Q _ => ∃ x y : Int × Nat, xs = [pr x, pr y] ∧ x.2 ≤ 1000 ∧ y.2 ≤ 1000 ∧ Q (pr (cn (sg x.1 x.2 + sg y.1 y.2))) M
def sp10 : L3.Spec := fun xs M Q _ => ∃ (n : Int) (t : Nat), xs = [.int n, .int t] ∧ t ≤ 10000 ∧ Q (.int (n * 2 ^ t)) M
def sp11 : L3.Spec := fun xs M Q _ => ∃ x y : Int × Nat, xs = [pr x, pr y] ∧ x.2 ≤ 200 ∧ y.2 ≤ 200 ∧ Q (pr (cn (sg x.1 x.2 + sg y.1 y.2))) M
def sp12 : L3.Spec := fun xs M Q _ => ∃ x y : Int × Nat, xs = [pr x, pr y] ∧ x.2 ≤ 1000 ∧ y.2 ≤ 1000 ∧ Q (pr (cn (sg x.1 x.2 - sg y.1 y.2))) M
def sp13 : L3.Spec := fun xs M Q _ => ∃ (ns : List Int), xs = [.kl (ns.map .int)] ∧ M = (fun _ => none) ∧ ∀ M', Q (.bl true) M'
def spK (i : Nat) : L3.Spec := match i with
  | 0 => sp0 | 1 => sp1 | 2 => sp2 | 3 => sp3 | 4 => sp4 | 5 => sp5 | 6 => sp6 | 7 => sp7 | 8 => sp8 | 9 => sp9 | 10 => sp10 | 11 => sp11 | 12 => sp12 | 13 => sp13
  | _ => fun _ _ _ _ => False
def P0 : Pr := ⟨spK, fun _ => 0, fun _ _ => none, fun _ _ => none, fun _ => [], fun _ _ => false⟩
theorem len2 {α : Type} (a b : α) : [a, b].length ≤ PySem.sizeLine := by show 2 ≤ _; decide
theorem mul2 {i : Int} : MulOk i 2 := .inr ⟨by decide, by decide⟩
theorem sm {i : Int} (h0 : 0 ≤ i) (h : i ≤ 10000) : small62 i := ⟨by omega, by omega⟩
theorem ok_half : Keeps P0 sp7 1 b_half := by
  rintro ds M Q X ⟨⟨n, e⟩, rfl, q⟩
  show wpSs P0 b_half _ _ [some (pr (n, e))] M
  unfold b_half pr
  simp only [wpSs, wpS, wpE, wpEs, wpT, L3.w_add, L3.w_addS, L3.w_addT, L3.w_sub, L3.w_mul, L3.w_fdiv, L3.w_mod, L3.w_pow, L3.w_iadd, L3.w_isub, L3.w_neg, L3.w_lt, L3.w_le, L3.w_gt, L3.w_ge, L3.w_eq, L3.w_ne, L3.w_in, L3.w_nin, L3.w_tb, L3.w_ti, L3.w_tt, L3.w_ix0, L3.w_ix1, L3.w_ix2, L3.w_lenT, L3.w_lenK, L3.w_int, L3.w_max, L3.w_min, L3.w_rng1, L3.w_rng2, L3.w_one, L3.w_ixK, List.getElem?_cons_zero, List.getElem?_cons_succ, List.set_cons_zero, List.set_cons_succ, Option.some.injEq, exists_eq_left', decide_eq_true_eq, Bool.false_eq_true, if_false, if_true]
  exact ⟨n, e + 1, rfl, q⟩
theorem ok_lowest0 : Keeps P0 sp0 3 b__law_lowest := by
  rintro ds M Q X ⟨n, e, rfl, he, q⟩
  show wpSs P0 b__law_lowest _ _ [some (.int n), some (.int e), none] M
  unfold b__law_lowest
  simp only [wpSs, wpS, wpE, wpEs, wpT, L3.w_add, L3.w_addS, L3.w_addT, L3.w_sub, L3.w_mul, L3.w_fdiv, L3.w_mod, L3.w_pow, L3.w_iadd, L3.w_isub, L3.w_neg, L3.w_lt, L3.w_le, L3.w_gt, L3.w_ge, L3.w_eq, L3.w_ne, L3.w_in, L3.w_nin, L3.w_tb, L3.w_ti, L3.w_tt, L3.w_ix0, L3.w_ix1, L3.w_ix2, L3.w_lenT, L3.w_lenK, L3.w_int, L3.w_max, L3.w_min, L3.w_rng1, L3.w_rng2, L3.w_one, L3.w_ixK, List.getElem?_cons_zero, List.getElem?_cons_succ, List.set_cons_zero, List.set_cons_succ, Option.some.injEq, exists_eq_left', decide_eq_true_eq, Bool.false_eq_true, if_false, if_true]
  split
  · rename_i h
    subst h
    rw [low_zero] at q
    exact ⟨len2 _ _, q⟩
  refine ⟨sm (by decide) (by decide), forL_inv (fun i σ M' => M' = M ∧ ∃ (n' : Int) (e' : Nat) (t : Option D), σ = [some (.int n'), some (.int e'), t] ∧ low n' e' = low n e ∧ (¬ n' % 2 = 0 ∨ e' = 0 ∨ e' + i ≤ 700)) ⟨rfl, n, e, none, rfl, rfl, .inr (.inr (by omega))⟩ ?_ ?_⟩
  · rintro i x σ M' nx hx ⟨rfl, n', e', t, rfl, hl, hc⟩ hnx
    obtain ⟨hi, rfl⟩ := dRange_get' hx
    refine ⟨trivial, ?_⟩
    unfold b__law_lowest_0
    simp only [wpSs, wpS, wpE, wpEs, wpT, L3.w_add, L3.w_addS, L3.w_addT, L3.w_sub, L3.w_mul, L3.w_fdiv, L3.w_mod, L3.w_pow, L3.w_iadd, L3.w_isub, L3.w_neg, L3.w_lt, L3.w_le, L3.w_gt, L3.w_ge, L3.w_eq, L3.w_ne, L3.w_in, L3.w_nin, L3.w_tb, L3.w_ti, L3.w_tt, L3.w_ix0, L3.w_ix1, L3.w_ix2, L3.w_lenT, L3.w_lenK, L3.w_int, L3.w_max, L3.w_min, L3.w_rng1, L3.w_rng2, L3.w_one, L3.w_ixK, List.getElem?_cons_zero, List.getElem?_cons_succ, List.set_cons_zero, List.set_cons_succ, Option.some.injEq, exists_eq_left', decide_eq_true_eq, Bool.false_eq_true, if_false, if_true]
    refine ⟨by decide, ?_⟩
    split
    · rename_i h
      split
      · rename_i h2
        refine ⟨⟨by decide, by decide⟩, hnx _ _ ⟨rfl, n' / 2, e' - 1, some (.int (0 + (i : Int))), ?_, ?_, ?_⟩⟩
        · rw [show ((e' : Int) - 1) = ((e' - 1 : Nat) : Int) by omega]
        · rw [← hl, ← low_even (e := e' - 1) h, show e' - 1 + 1 = e' by omega]
        · rcases hc with hc | hc | hc
          · exact absurd h hc
          · omega
          · exact .inr (.inr (by omega))
      · rename_i h2
        exact hnx _ _ ⟨rfl, n', e', some (.int (0 + (i : Int))), rfl, hl, .inr (.inl (by omega))⟩
    · rename_i h
      exact hnx _ _ ⟨rfl, n', e', some (.int (0 + (i : Int))), rfl, hl, .inl h⟩
  · rintro σ M' ⟨rfl, n', e', t, rfl, hl, hc⟩
    refine ⟨trivial, ?_⟩
    simp only [wpSs, wpS, wpE, wpEs, wpT, L3.w_add, L3.w_addS, L3.w_addT, L3.w_sub, L3.w_mul, L3.w_fdiv, L3.w_mod, L3.w_pow, L3.w_iadd, L3.w_isub, L3.w_neg, L3.w_lt, L3.w_le, L3.w_gt, L3.w_ge, L3.w_eq, L3.w_ne, L3.w_in, L3.w_nin, L3.w_tb, L3.w_ti, L3.w_tt, L3.w_ix0, L3.w_ix1, L3.w_ix2, L3.w_lenT, L3.w_lenK, L3.w_int, L3.w_max, L3.w_min, L3.w_rng1, L3.w_rng2, L3.w_one, L3.w_ixK, List.getElem?_cons_zero, List.getElem?_cons_succ, List.set_cons_zero, List.set_cons_succ, Option.some.injEq, exists_eq_left', decide_eq_true_eq, Bool.false_eq_true, if_false, if_true]
    refine ⟨len2 _ _, ?_⟩
    have : low n' e' = (n', e') := by
      rcases hc with hc | hc | hc
      · exact low_odd hc
      · subst hc; rfl
      · rw [dRange_len] at hc
        have : e' = 0 := by omega
        subst this; rfl
    rw [← hl, this] at q
    exact q
theorem ok_lowest : Keeps P0 sp6 2 b_lowest := by
  rintro ds M Q X ⟨n, e, rfl, q⟩
  show wpSs P0 b_lowest _ _ [some (.int n), some (.int e)] M
  unfold b_lowest
  simp only [wpSs, wpS, wpE, wpEs, wpT, L3.w_add, L3.w_addS, L3.w_addT, L3.w_sub, L3.w_mul, L3.w_fdiv, L3.w_mod, L3.w_pow, L3.w_iadd, L3.w_isub, L3.w_neg, L3.w_lt, L3.w_le, L3.w_gt, L3.w_ge, L3.w_eq, L3.w_ne, L3.w_in, L3.w_nin, L3.w_tb, L3.w_ti, L3.w_tt, L3.w_ix0, L3.w_ix1, L3.w_ix2, L3.w_lenT, L3.w_lenK, L3.w_int, L3.w_max, L3.w_min, L3.w_rng1, L3.w_rng2, L3.w_one, L3.w_ixK, List.getElem?_cons_zero, List.getElem?_cons_succ, List.set_cons_zero, List.set_cons_succ, Option.some.injEq, exists_eq_left', decide_eq_true_eq, Bool.false_eq_true, if_false, if_true]
  split
  · rename_i h
    subst h
    rw [low_zero] at q
    exact q
  refine whL_inv (fun m σ M' => M' = M ∧ ∃ (n' : Int) (e' : Nat), σ = [some (.int n'), some (.int e')] ∧ low n' e' = low n e ∧ m = e') e ⟨rfl, n, e, rfl, rfl, rfl⟩ ?_
  rintro m σ M' nx ⟨rfl, n', e', rfl, hl, rfl⟩ hnx
  simp only [wpSs, wpS, wpE, wpEs, wpT, L3.w_add, L3.w_addS, L3.w_addT, L3.w_sub, L3.w_mul, L3.w_fdiv, L3.w_mod, L3.w_pow, L3.w_iadd, L3.w_isub, L3.w_neg, L3.w_lt, L3.w_le, L3.w_gt, L3.w_ge, L3.w_eq, L3.w_ne, L3.w_in, L3.w_nin, L3.w_tb, L3.w_ti, L3.w_tt, L3.w_ix0, L3.w_ix1, L3.w_ix2, L3.w_lenT, L3.w_lenK, L3.w_int, L3.w_max, L3.w_min, L3.w_rng1, L3.w_rng2, L3.w_one, L3.w_ixK, List.getElem?_cons_zero, List.getElem?_cons_succ, List.set_cons_zero, List.set_cons_succ, Option.some.injEq, exists_eq_left', decide_eq_true_eq, Bool.false_eq_true, if_false, if_true]
  have fin : (¬ n' % 2 = 0 ∨ m = 0) → Q (.tup [.int n', .int m]) M' := fun hc => by
    have : low n' m = (n', m) := by
      rcases hc with hc | hc
      · exact low_odd hc
      · subst hc; rfl
    rw [← hl, this] at q
    exact q
  split
  · refine ⟨by decide, ?_⟩
    split
    · rename_i h1 h2
      unfold b_lowest_0
      simp only [wpSs, wpS, wpE, wpEs, wpT, L3.w_add, L3.w_addS, L3.w_addT, L3.w_sub, L3.w_mul, L3.w_fdiv, L3.w_mod, L3.w_pow, L3.w_iadd, L3.w_isub, L3.w_neg, L3.w_lt, L3.w_le, L3.w_gt, L3.w_ge, L3.w_eq, L3.w_ne, L3.w_in, L3.w_nin, L3.w_tb, L3.w_ti, L3.w_tt, L3.w_ix0, L3.w_ix1, L3.w_ix2, L3.w_lenT, L3.w_lenK, L3.w_int, L3.w_max, L3.w_min, L3.w_rng1, L3.w_rng2, L3.w_one, L3.w_ixK, List.getElem?_cons_zero, List.getElem?_cons_succ, List.set_cons_zero, List.set_cons_succ, Option.some.injEq, exists_eq_left', decide_eq_true_eq, Bool.false_eq_true, if_false, if_true]
      refine ⟨⟨by decide, by decide⟩, hnx (m - 1) _ _ (by omega) ⟨rfl, n' / 2, m - 1, ?_, ?_, rfl⟩⟩
      · rw [show ((m : Int) - 1) = ((m - 1 : Nat) : Int) by omega]
      · rw [← hl, ← low_even (e := m - 1) h2, show m - 1 + 1 = m by omega]
    · rename_i h1 h2
      exact ⟨len2 _ _, fin (.inl h2)⟩
  · rename_i h1
    exact ⟨len2 _ _, fin (.inr (by omega))⟩
theorem ok_raised : Keeps P0 sp8 4 b_raised := by
  rintro ds M Q X ⟨⟨n, e⟩, E, rfl, h1, h2, q⟩
  show wpSs P0 b_raised _ _ [some (pr (n, e)), some (.int E), none, none] M
  unfold b_raised pr
  simp only [wpSs, wpS, wpE, wpEs, wpT, L3.w_add, L3.w_addS, L3.w_addT, L3.w_sub, L3.w_mul, L3.w_fdiv, L3.w_mod, L3.w_pow, L3.w_iadd, L3.w_isub, L3.w_neg, L3.w_lt, L3.w_le, L3.w_gt, L3.w_ge, L3.w_eq, L3.w_ne, L3.w_in, L3.w_nin, L3.w_tb, L3.w_ti, L3.w_tt, L3.w_ix0, L3.w_ix1, L3.w_ix2, L3.w_lenT, L3.w_lenK, L3.w_int, L3.w_max, L3.w_min, L3.w_rng1, L3.w_rng2, L3.w_one, L3.w_ixK, List.getElem?_cons_zero, List.getElem?_cons_succ, List.set_cons_zero, List.set_cons_succ, Option.some.injEq, exists_eq_left', decide_eq_true_eq, Bool.false_eq_true, if_false, if_true]
  have h1 : e ≤ E := h1
  refine ⟨sm (by omega) (by omega), forL_inv (fun i σ M' => M' = M ∧ ∃ t : Option D, σ = [some (pr (n, e)), some (.int E), some (.int (n * 2 ^ i)), t]) ⟨rfl, none, by simp [pr]⟩ ?_ ?_⟩
  · rintro i x σ M' nx hx ⟨rfl, t, rfl⟩ hnx
    refine ⟨trivial, ?_⟩
    unfold b_raised_0
    simp only [wpSs, wpS, wpE, wpEs, wpT, L3.w_add, L3.w_addS, L3.w_addT, L3.w_sub, L3.w_mul, L3.w_fdiv, L3.w_mod, L3.w_pow, L3.w_iadd, L3.w_isub, L3.w_neg, L3.w_lt, L3.w_le, L3.w_gt, L3.w_ge, L3.w_eq, L3.w_ne, L3.w_in, L3.w_nin, L3.w_tb, L3.w_ti, L3.w_tt, L3.w_ix0, L3.w_ix1, L3.w_ix2, L3.w_lenT, L3.w_lenK, L3.w_int, L3.w_max, L3.w_min, L3.w_rng1, L3.w_rng2, L3.w_one, L3.w_ixK, List.getElem?_cons_zero, List.getElem?_cons_succ, List.set_cons_zero, List.set_cons_succ, Option.some.injEq, exists_eq_left', decide_eq_true_eq, Bool.false_eq_true, if_false, if_true]
    exact ⟨mul2, hnx _ _ ⟨rfl, some x, by rw [Int.pow_succ, ← Int.mul_assoc]⟩⟩
  · rintro σ M' ⟨rfl, t, rfl⟩
    refine ⟨trivial, ?_⟩
    simp only [wpSs, wpS, wpE, wpEs, wpT, L3.w_add, L3.w_addS, L3.w_addT, L3.w_sub, L3.w_mul, L3.w_fdiv, L3.w_mod, L3.w_pow, L3.w_iadd, L3.w_isub, L3.w_neg, L3.w_lt, L3.w_le, L3.w_gt, L3.w_ge, L3.w_eq, L3.w_ne, L3.w_in, L3.w_nin, L3.w_tb, L3.w_ti, L3.w_tt, L3.w_ix0, L3.w_ix1, L3.w_ix2, L3.w_lenT, L3.w_lenK, L3.w_int, L3.w_max, L3.w_min, L3.w_rng1, L3.w_rng2, L3.w_one, L3.w_ixK, List.getElem?_cons_zero, List.getElem?_cons_succ, List.set_cons_zero, List.set_cons_succ, Option.some.injEq, exists_eq_left', decide_eq_true_eq, Bool.false_eq_true, if_false, if_true]
    rw [dRange_len, show ((E : Int) - (e : Int) - 0).toNat = E - e by omega]
    exact q
theorem ok_doubled : Keeps P0 sp10 3 b__law_doubled := by
  rintro ds M Q X ⟨n, t, rfl, h2, q⟩
  show wpSs P0 b__law_doubled _ _ [some (.int n), some (.int t), none] M
  unfold b__law_doubled
  simp only [wpSs, wpS, wpE, wpEs, wpT, L3.w_add, L3.w_addS, L3.w_addT, L3.w_sub, L3.w_mul, L3.w_fdiv, L3.w_mod, L3.w_pow, L3.w_iadd, L3.w_isub, L3.w_neg, L3.w_lt, L3.w_le, L3.w_gt, L3.w_ge, L3.w_eq, L3.w_ne, L3.w_in, L3.w_nin, L3.w_tb, L3.w_ti, L3.w_tt, L3.w_ix0, L3.w_ix1, L3.w_ix2, L3.w_lenT, L3.w_lenK, L3.w_int, L3.w_max, L3.w_min, L3.w_rng1, L3.w_rng2, L3.w_one, L3.w_ixK, List.getElem?_cons_zero, List.getElem?_cons_succ, List.set_cons_zero, List.set_cons_succ, Option.some.injEq, exists_eq_left', decide_eq_true_eq, Bool.false_eq_true, if_false, if_true]
  refine ⟨sm (by omega) (by omega), forL_inv (fun i σ M' => M' = M ∧ ∃ u : Option D, σ = [some (.int (n * 2 ^ i)), some (.int t), u]) ⟨rfl, none, by simp⟩ ?_ ?_⟩
  · rintro i x σ M' nx hx ⟨rfl, u, rfl⟩ hnx
    refine ⟨trivial, ?_⟩
    unfold b__law_doubled_0
    simp only [wpSs, wpS, wpE, wpEs, wpT, L3.w_add, L3.w_addS, L3.w_addT, L3.w_sub, L3.w_mul, L3.w_fdiv, L3.w_mod, L3.w_pow, L3.w_iadd, L3.w_isub, L3.w_neg, L3.w_lt, L3.w_le, L3.w_gt, L3.w_ge, L3.w_eq, L3.w_ne, L3.w_in, L3.w_nin, L3.w_tb, L3.w_ti, L3.w_tt, L3.w_ix0, L3.w_ix1, L3.w_ix2, L3.w_lenT, L3.w_lenK, L3.w_int, L3.w_max, L3.w_min, L3.w_rng1, L3.w_rng2, L3.w_one, L3.w_ixK, List.getElem?_cons_zero, List.getElem?_cons_succ, List.set_cons_zero, List.set_cons_succ, Option.some.injEq, exists_eq_left', decide_eq_true_eq, Bool.false_eq_true, if_false, if_true]
    exact ⟨mul2, hnx _ _ ⟨rfl, some x, by rw [Int.pow_succ, ← Int.mul_assoc]⟩⟩
  · rintro σ M' ⟨rfl, u, rfl⟩
    refine ⟨trivial, ?_⟩
    simp only [wpSs, wpS, wpE, wpEs, wpT, L3.w_add, L3.w_addS, L3.w_addT, L3.w_sub, L3.w_mul, L3.w_fdiv, L3.w_mod, L3.w_pow, L3.w_iadd, L3.w_isub, L3.w_neg, L3.w_lt, L3.w_le, L3.w_gt, L3.w_ge, L3.w_eq, L3.w_ne, L3.w_in, L3.w_nin, L3.w_tb, L3.w_ti, L3.w_tt, L3.w_ix0, L3.w_ix1, L3.w_ix2, L3.w_lenT, L3.w_lenK, L3.w_int, L3.w_max, L3.w_min, L3.w_rng1, L3.w_rng2, L3.w_one, L3.w_ixK, List.getElem?_cons_zero, List.getElem?_cons_succ, List.set_cons_zero, List.set_cons_succ, Option.some.injEq, exists_eq_left', decide_eq_true_eq, Bool.false_eq_true, if_false, if_true]
    rw [dRange_len, show ((t : Int) - 0).toNat = t by omega]
    exact q
theorem ok_sum : Keeps P0 sp11 2 b__law_sum := by
  rintro ds M Q X ⟨⟨n, e⟩, ⟨m, f⟩, rfl, h1, h2, q⟩
  show wpSs P0 b__law_sum _ _ [some (pr (n, e)), some (pr (m, f))] M
  unfold b__law_sum pr
  simp only [wpSs, wpS, wpE, wpEs, wpT, L3.w_add, L3.w_addS, L3.w_addT, L3.w_sub, L3.w_mul, L3.w_fdiv, L3.w_mod, L3.w_pow, L3.w_iadd, L3.w_isub, L3.w_neg, L3.w_lt, L3.w_le, L3.w_gt, L3.w_ge, L3.w_eq, L3.w_ne, L3.w_in, L3.w_nin, L3.w_tb, L3.w_ti, L3.w_tt, L3.w_ix0, L3.w_ix1, L3.w_ix2, L3.w_lenT, L3.w_lenK, L3.w_int, L3.w_max, L3.w_min, L3.w_rng1, L3.w_rng2, L3.w_one, L3.w_ixK, List.getElem?_cons_zero, List.getElem?_cons_succ, List.set_cons_zero, List.set_cons_succ, Option.some.injEq, exists_eq_left', decide_eq_true_eq, Bool.false_eq_true, if_false, if_true]
  have h1 : e ≤ 200 := h1
  have h2 : f ≤ 200 := h2
  refine ⟨n, f, rfl, by omega, m, e, rfl, by omega, n * 2 ^ f + m * 2 ^ e, e + f, rfl, by omega, ?_⟩
  rw [low_cn (by omega), sg_add, sg_up (by omega), Nat.add_comm e f, sg_up (by omega)]
  exact q
theorem maxE (e f : Nat) : (if (f : Int) > (e : Int) then (f : Int) else (e : Int)) = ((max e f : Nat) : Int) := by
  split <;> omega
theorem ok_plus : Keeps P0 sp9 3 b_plus := by
  rintro ds M Q X ⟨⟨n, e⟩, ⟨m, f⟩, rfl, h1, h2, q⟩
  show wpSs P0 b_plus _ _ [some (pr (n, e)), some (pr (m, f)), none] M
  unfold b_plus pr
  simp only [wpSs, wpS, wpE, wpEs, wpT, L3.w_add, L3.w_addS, L3.w_addT, L3.w_sub, L3.w_mul, L3.w_fdiv, L3.w_mod, L3.w_pow, L3.w_iadd, L3.w_isub, L3.w_neg, L3.w_lt, L3.w_le, L3.w_gt, L3.w_ge, L3.w_eq, L3.w_ne, L3.w_in, L3.w_nin, L3.w_tb, L3.w_ti, L3.w_tt, L3.w_ix0, L3.w_ix1, L3.w_ix2, L3.w_lenT, L3.w_lenK, L3.w_int, L3.w_max, L3.w_min, L3.w_rng1, L3.w_rng2, L3.w_one, L3.w_ixK, List.getElem?_cons_zero, List.getElem?_cons_succ, List.set_cons_zero, List.set_cons_succ, Option.some.injEq, exists_eq_left', decide_eq_true_eq, Bool.false_eq_true, if_false, if_true]
  have h1 : e ≤ 1000 := h1
  have h2 : f ≤ 1000 := h2
  refine ⟨(n, e), max e f, by rw [maxE]; rfl, by show e ≤ _; omega, by omega, (m, f), max e f, by rw [maxE]; rfl, by show f ≤ _; omega, by omega, n * 2 ^ (max e f - e) + m * 2 ^ (max e f - f), max e f, by rw [maxE], ?_⟩
  rw [low_cn (by omega), sg_add, sg_raise (by omega) (by omega), sg_raise (by omega) (by omega)]
  exact q
theorem ok_minus : Keeps P0 sp12 3 b_minus := by
  rintro ds M Q X ⟨⟨n, e⟩, ⟨m, f⟩, rfl, h1, h2, q⟩
  show wpSs P0 b_minus _ _ [some (pr (n, e)), some (pr (m, f)), none] M
  unfold b_minus pr
  simp only [wpSs, wpS, wpE, wpEs, wpT, L3.w_add, L3.w_addS, L3.w_addT, L3.w_sub, L3.w_mul, L3.w_fdiv, L3.w_mod, L3.w_pow, L3.w_iadd, L3.w_isub, L3.w_neg, L3.w_lt, L3.w_le, L3.w_gt, L3.w_ge, L3.w_eq, L3.w_ne, L3.w_in, L3.w_nin, L3.w_tb, L3.w_ti, L3.w_tt, L3.w_ix0, L3.w_ix1, L3.w_ix2, L3.w_lenT, L3.w_lenK, L3.w_int, L3.w_max, L3.w_min, L3.w_rng1, L3.w_rng2, L3.w_one, L3.w_ixK, List.getElem?_cons_zero, List.getElem?_cons_succ, List.set_cons_zero, List.set_cons_succ, Option.some.injEq, exists_eq_left', decide_eq_true_eq, Bool.false_eq_true, if_false, if_true]
  have h1 : e ≤ 1000 := h1
  have h2 : f ≤ 1000 := h2
  refine ⟨(n, e), max e f, by rw [maxE]; rfl, by show e ≤ _; omega, by omega, (m, f), max e f, by rw [maxE]; rfl, by show f ≤ _; omega, by omega, n * 2 ^ (max e f - e) - m * 2 ^ (max e f - f), max e f, by rw [maxE], ?_⟩
  rw [low_cn (by omega), sg_sub, sg_raise (by omega) (by omega), sg_raise (by omega) (by omega)]
  exact q
theorem ok_same : Keeps P0 sp3 2 b__law_same := by
  rintro ds M Q X ⟨d, e, rfl, ⟨p, h1, h2, h3, h4, h5⟩, q⟩
  show wpSs P0 b__law_same _ _ [some d, some e] M
  unfold b__law_same
  simp only [wpSs, wpS, wpE, wpEs, wpT, L3.w_add, L3.w_addS, L3.w_addT, L3.w_sub, L3.w_mul, L3.w_fdiv, L3.w_mod, L3.w_pow, L3.w_iadd, L3.w_isub, L3.w_neg, L3.w_lt, L3.w_le, L3.w_gt, L3.w_ge, L3.w_eq, L3.w_ne, L3.w_in, L3.w_nin, L3.w_tb, L3.w_ti, L3.w_tt, L3.w_ix0, L3.w_ix1, L3.w_ix2, L3.w_lenT, L3.w_lenK, L3.w_int, L3.w_max, L3.w_min, L3.w_rng1, L3.w_rng2, L3.w_one, L3.w_ixK, List.getElem?_cons_zero, List.getElem?_cons_succ, List.set_cons_zero, List.set_cons_succ, Option.some.injEq, exists_eq_left', decide_eq_true_eq, Bool.false_eq_true, if_false, if_true]
  refine ⟨p, h1, h3, h4, h5, p, h2, h3, h4, h5, ?_⟩
  exact wpEq_same (x := .str p.shown) (M := M) (k := fun r => Q (.bl r) M) (fun _ z => nomatch z) rfl q
theorem ok_cell : Keeps P0 sp4 2 b__law_cell := by
  rintro ds M Q X ⟨ns, k, rfl, q⟩
  show wpSs P0 b__law_cell _ _ [some (.kl (ns.map .int)), some (.int k)] M
  unfold b__law_cell
  simp only [wpSs, wpS, wpE, wpEs, wpT, L3.w_add, L3.w_addS, L3.w_addT, L3.w_sub, L3.w_mul, L3.w_fdiv, L3.w_mod, L3.w_pow, L3.w_iadd, L3.w_isub, L3.w_neg, L3.w_lt, L3.w_le, L3.w_gt, L3.w_ge, L3.w_eq, L3.w_ne, L3.w_in, L3.w_nin, L3.w_tb, L3.w_ti, L3.w_tt, L3.w_ix0, L3.w_ix1, L3.w_ix2, L3.w_lenT, L3.w_lenK, L3.w_int, L3.w_max, L3.w_min, L3.w_rng1, L3.w_rng2, L3.w_one, L3.w_ixK, List.getElem?_cons_zero, List.getElem?_cons_succ, List.set_cons_zero, List.set_cons_succ, Option.some.injEq, exists_eq_left', decide_eq_true_eq, Bool.false_eq_true, if_false, if_true]
  split
  · rename_i h
    have hk : k < ns.length := by simpa using h
    refine ⟨.int ns[k], ?_, q _⟩
    simp [atD, hk]
  · exact q 0
end K01
end
section
set_option autoImplicit false
set_option linter.all false
set_option maxRecDepth 100000
/-! k01: the draws -/
namespace K01
open L3
open PySem (Addr Str PyData)

theorem box_new {M : Mp} {b p : Addr} {o : MO} (h : Box M b) (hp : M p = none) : Box (mset M p o) b := by
  obtain ⟨d, xs, at_, h1, h2, h3⟩ := h
  have n1 : b ≠ p := by rintro rfl; rw [hp] at h1; cases h1
  have n2 : d ≠ p := by rintro rfl; rw [hp] at h2; cases h2
  exact ⟨d, xs, at_, by rw [mset_ne n1]; exact h1, by rw [mset_ne n2]; exact h2, h3⟩
theorem atD_get {ds : List D} {i : Nat} {d : D} (h : ds[i]? = some d) : atD ds (i : Int) = some d := by
  unfold atD
  rw [if_pos (by omega)]
  exact h
theorem ok_draw : Keeps P0 sp1 3 b__law_draw := by
  rintro ds M Q X ⟨b, m, rfl, hm, ⟨d, xs, at_, h1, h2, h3⟩, q⟩
  show wpSs P0 b__law_draw _ _ [some (.ref b), some (.int m), none] M
  unfold b__law_draw
  simp only [wpSs, wpS, wpE, wpEs, wpT, L3.w_add, L3.w_addS, L3.w_addT, L3.w_sub, L3.w_mul, L3.w_fdiv, L3.w_mod, L3.w_pow, L3.w_iadd, L3.w_isub, L3.w_neg, L3.w_lt, L3.w_le, L3.w_gt, L3.w_ge, L3.w_eq, L3.w_ne, L3.w_in, L3.w_nin, L3.w_tb, L3.w_ti, L3.w_tt, L3.w_ix0, L3.w_ix1, L3.w_ix2, L3.w_lenT, L3.w_lenK, L3.w_int, L3.w_max, L3.w_min, L3.w_rng1, L3.w_rng2, L3.w_one, L3.w_ixK, List.getElem?_cons_zero, List.getElem?_cons_succ, List.set_cons_zero, List.set_cons_succ, Option.some.injEq, exists_eq_left', decide_eq_true_eq, Bool.false_eq_true, if_false, if_true]
  refine (w_ixL h1).mpr ⟨.int at_, rfl, ?_⟩
  simp only [wpSs, wpS, wpE, wpEs, wpT, L3.w_add, L3.w_addS, L3.w_addT, L3.w_sub, L3.w_mul, L3.w_fdiv, L3.w_mod, L3.w_pow, L3.w_iadd, L3.w_isub, L3.w_neg, L3.w_lt, L3.w_le, L3.w_gt, L3.w_ge, L3.w_eq, L3.w_ne, L3.w_in, L3.w_nin, L3.w_tb, L3.w_ti, L3.w_tt, L3.w_ix0, L3.w_ix1, L3.w_ix2, L3.w_lenT, L3.w_lenK, L3.w_int, L3.w_max, L3.w_min, L3.w_rng1, L3.w_rng2, L3.w_one, L3.w_ixK, List.getElem?_cons_zero, List.getElem?_cons_succ, List.set_cons_zero, List.set_cons_succ, Option.some.injEq, exists_eq_left', decide_eq_true_eq, Bool.false_eq_true, if_false, if_true]
  refine (w_set h1).mpr ⟨⟨by decide, by show (1 : Int) < 2; decide⟩, ?_⟩
  have g1 : mset M b (.lst ([D.ref d, .int at_].set (Int.toNat 1) (.int ((at_ : Int) + 1)))) b = some (.lst [.ref d, .int ((at_ : Int) + 1)]) := mset_same
  have g2 : mset M b (.lst ([D.ref d, .int at_].set (Int.toNat 1) (.int ((at_ : Int) + 1)))) d = some (.lst (xs.map .int)) := (mset_ne h3.symm).trans h2
  have bx : Box (mset M b (.lst ([D.ref d, .int at_].set (Int.toNat 1) (.int ((at_ : Int) + 1))))) b := ⟨d, xs, at_ + 1, g1, g2, h3⟩
  have bt : But b M (mset M b (.lst ([D.ref d, .int at_].set (Int.toNat 1) (.int ((at_ : Int) + 1))))) := fun c hc => mset_ne hc
  revert g1 g2 bx bt
  generalize mset M b (.lst ([D.ref d, .int at_].set (Int.toNat 1) (.int ((at_ : Int) + 1)))) = M1
  intro g1 g2 bx bt
  refine (w_ixL g1).mpr ⟨.ref d, rfl, ?_⟩
  refine (w_lenL g2).mpr ?_
  simp only [wpSs, wpS, wpE, wpEs, wpT, L3.w_add, L3.w_addS, L3.w_addT, L3.w_sub, L3.w_mul, L3.w_fdiv, L3.w_mod, L3.w_pow, L3.w_iadd, L3.w_isub, L3.w_neg, L3.w_lt, L3.w_le, L3.w_gt, L3.w_ge, L3.w_eq, L3.w_ne, L3.w_in, L3.w_nin, L3.w_tb, L3.w_ti, L3.w_tt, L3.w_ix0, L3.w_ix1, L3.w_ix2, L3.w_lenT, L3.w_lenK, L3.w_int, L3.w_max, L3.w_min, L3.w_rng1, L3.w_rng2, L3.w_one, L3.w_ixK, List.getElem?_cons_zero, List.getElem?_cons_succ, List.set_cons_zero, List.set_cons_succ, Option.some.injEq, exists_eq_left', decide_eq_true_eq, Bool.false_eq_true, if_false, if_true]
  split
  · rename_i hlt
    have hk : at_ < xs.length := by simpa using hlt
    refine (w_ixL g1).mpr ⟨.ref d, rfl, ?_⟩
    refine (w_ixL g2).mpr ⟨.int xs[at_], atD_get (by simp [hk]), ?_⟩
    simp only [wpSs, wpS, wpE, wpEs, wpT, L3.w_add, L3.w_addS, L3.w_addT, L3.w_sub, L3.w_mul, L3.w_fdiv, L3.w_mod, L3.w_pow, L3.w_iadd, L3.w_isub, L3.w_neg, L3.w_lt, L3.w_le, L3.w_gt, L3.w_ge, L3.w_eq, L3.w_ne, L3.w_in, L3.w_nin, L3.w_tb, L3.w_ti, L3.w_tt, L3.w_ix0, L3.w_ix1, L3.w_ix2, L3.w_lenT, L3.w_lenK, L3.w_int, L3.w_max, L3.w_min, L3.w_rng1, L3.w_rng2, L3.w_one, L3.w_ixK, List.getElem?_cons_zero, List.getElem?_cons_succ, List.set_cons_zero, List.set_cons_succ, Option.some.injEq, exists_eq_left', decide_eq_true_eq, Bool.false_eq_true, if_false, if_true]
    exact ⟨hm, q _ _ (Int.emod_nonneg _ (by omega)) (Int.emod_lt_of_pos _ hm) bx bt⟩
  · exact ⟨.inr ⟨by decide, by decide⟩, hm, q _ _ (Int.emod_nonneg _ (by omega)) (Int.emod_lt_of_pos _ hm) bx bt⟩
theorem pow_step {n r : Int} {i : Nat} (h0 : 0 ≤ n) (h1 : n < 1000 ^ i) (r0 : 0 ≤ r) (r1 : r < 1000) : 0 ≤ n * 1000 + r ∧ n * 1000 + r < 1000 ^ (i + 1) := by
  rw [Int.pow_succ]
  omega
theorem pmono {a : Int} (ha : 1 ≤ a) (i : Nat) : ∀ k : Nat, a ^ i ≤ a ^ (i + k)
  | 0 => Int.le_refl _
  | k + 1 => by
    have h := pmono ha i k
    have p : 0 ≤ a ^ (i + k) := Int.pow_nonneg (by omega)
    have e := Int.mul_le_mul_of_nonneg_left ha p
    rw [Int.mul_one] at e
    rw [← Nat.add_assoc, Int.pow_succ]
    omega
theorem pmono' {a : Int} (ha : 1 ≤ a) {i j : Nat} (h : i ≤ j) : a ^ i ≤ a ^ j := by
  have := pmono ha i (j - i)
  rwa [show i + (j - i) = j by omega] at this
theorem w_bound {n : Int} {i e : Nat} (h0 : 0 ≤ n) (h1 : n < 1000 ^ i) (hi : i ≤ 13) (he : e ≤ 1000) : 0 ≤ sg n e ∧ sg n e < 2 ^ 1130 := by
  have a : (1000 : Int) ^ i ≤ 1000 ^ 13 := pmono' (by decide) hi
  have b : (1000 : Int) ^ 13 ≤ 2 ^ 130 := by decide +kernel
  have c : (2 : Int) ^ (1000 - e) ≤ 2 ^ 1000 := pmono' (by decide) (by omega)
  have d := two_pos (1000 - e)
  unfold sg
  refine ⟨Int.mul_nonneg h0 (by omega), ?_⟩
  have e1 : n * 2 ^ (1000 - e) ≤ n * 2 ^ 1000 := Int.mul_le_mul_of_nonneg_left c h0
  have e2 : n * 2 ^ 1000 < 2 ^ 130 * 2 ^ 1000 := Int.mul_lt_mul_of_pos_right (by omega) (two_pos 1000)
  rw [← Int.pow_add] at e2
  exact Int.lt_of_le_of_lt e1 e2
theorem ok_weight : Keeps P0 sp2 3 b__law_weight := by
  rintro ds M Q X ⟨b, rfl, hb, q⟩
  show wpSs P0 b__law_weight _ _ [some (.ref b), none, none] M
  unfold b__law_weight
  simp only [wpSs, wpS, wpE, wpEs, wpT, L3.w_add, L3.w_addS, L3.w_addT, L3.w_sub, L3.w_mul, L3.w_fdiv, L3.w_mod, L3.w_pow, L3.w_iadd, L3.w_isub, L3.w_neg, L3.w_lt, L3.w_le, L3.w_gt, L3.w_ge, L3.w_eq, L3.w_ne, L3.w_in, L3.w_nin, L3.w_tb, L3.w_ti, L3.w_tt, L3.w_ix0, L3.w_ix1, L3.w_ix2, L3.w_lenT, L3.w_lenK, L3.w_int, L3.w_max, L3.w_min, L3.w_rng1, L3.w_rng2, L3.w_one, L3.w_ixK, List.getElem?_cons_zero, List.getElem?_cons_succ, List.set_cons_zero, List.set_cons_succ, Option.some.injEq, exists_eq_left', decide_eq_true_eq, Bool.false_eq_true, if_false, if_true]
  refine ⟨b, 14, rfl, by decide, hb, fun r M1 r0 r1 hb1 bt1 => ?_⟩
  simp only [wpSs, wpS, wpE, wpEs, wpT, L3.w_add, L3.w_addS, L3.w_addT, L3.w_sub, L3.w_mul, L3.w_fdiv, L3.w_mod, L3.w_pow, L3.w_iadd, L3.w_isub, L3.w_neg, L3.w_lt, L3.w_le, L3.w_gt, L3.w_ge, L3.w_eq, L3.w_ne, L3.w_in, L3.w_nin, L3.w_tb, L3.w_ti, L3.w_tt, L3.w_ix0, L3.w_ix1, L3.w_ix2, L3.w_lenT, L3.w_lenK, L3.w_int, L3.w_max, L3.w_min, L3.w_rng1, L3.w_rng2, L3.w_one, L3.w_ixK, List.getElem?_cons_zero, List.getElem?_cons_succ, List.set_cons_zero, List.set_cons_succ, Option.some.injEq, exists_eq_left', decide_eq_true_eq, Bool.false_eq_true, if_false, if_true]
  refine ⟨sm r0 (by omega), forL_inv (fun i σ M' => Box M' b ∧ But b M M' ∧ ∃ (n : Int) (t : Option D), σ = [some (.ref b), some (.int n), t] ∧ 0 ≤ n ∧ n < 1000 ^ i) ⟨hb1, bt1, 0, none, rfl, by decide, by decide⟩ ?_ ?_⟩
  · rintro i x σ M' nx hx ⟨hb', bt', n, t, rfl, n0, n1⟩ hnx
    refine ⟨trivial, ?_⟩
    unfold b__law_weight_0
    simp only [wpSs, wpS, wpE, wpEs, wpT, L3.w_add, L3.w_addS, L3.w_addT, L3.w_sub, L3.w_mul, L3.w_fdiv, L3.w_mod, L3.w_pow, L3.w_iadd, L3.w_isub, L3.w_neg, L3.w_lt, L3.w_le, L3.w_gt, L3.w_ge, L3.w_eq, L3.w_ne, L3.w_in, L3.w_nin, L3.w_tb, L3.w_ti, L3.w_tt, L3.w_ix0, L3.w_ix1, L3.w_ix2, L3.w_lenT, L3.w_lenK, L3.w_int, L3.w_max, L3.w_min, L3.w_rng1, L3.w_rng2, L3.w_one, L3.w_ixK, List.getElem?_cons_zero, List.getElem?_cons_succ, List.set_cons_zero, List.set_cons_succ, Option.some.injEq, exists_eq_left', decide_eq_true_eq, Bool.false_eq_true, if_false, if_true]
    refine ⟨.inr ⟨by decide, by decide⟩, b, 1000, rfl, by decide, hb', fun r M2 r0 r1 hb2 bt2 => ?_⟩
    simp only [wpSs, wpS, wpE, wpEs, wpT, L3.w_add, L3.w_addS, L3.w_addT, L3.w_sub, L3.w_mul, L3.w_fdiv, L3.w_mod, L3.w_pow, L3.w_iadd, L3.w_isub, L3.w_neg, L3.w_lt, L3.w_le, L3.w_gt, L3.w_ge, L3.w_eq, L3.w_ne, L3.w_in, L3.w_nin, L3.w_tb, L3.w_ti, L3.w_tt, L3.w_ix0, L3.w_ix1, L3.w_ix2, L3.w_lenT, L3.w_lenK, L3.w_int, L3.w_max, L3.w_min, L3.w_rng1, L3.w_rng2, L3.w_one, L3.w_ixK, List.getElem?_cons_zero, List.getElem?_cons_succ, List.set_cons_zero, List.set_cons_succ, Option.some.injEq, exists_eq_left', decide_eq_true_eq, Bool.false_eq_true, if_false, if_true]
    obtain ⟨p0, p1⟩ := pow_step n0 n1 r0 r1
    exact hnx _ _ ⟨hb2, bt'.trans bt2, _, some x, rfl, p0, p1⟩
  · rintro σ M' ⟨hb', bt', n, t, rfl, n0, n1⟩
    refine ⟨trivial, ?_⟩
    simp only [wpSs, wpS, wpE, wpEs, wpT, L3.w_add, L3.w_addS, L3.w_addT, L3.w_sub, L3.w_mul, L3.w_fdiv, L3.w_mod, L3.w_pow, L3.w_iadd, L3.w_isub, L3.w_neg, L3.w_lt, L3.w_le, L3.w_gt, L3.w_ge, L3.w_eq, L3.w_ne, L3.w_in, L3.w_nin, L3.w_tb, L3.w_ti, L3.w_tt, L3.w_ix0, L3.w_ix1, L3.w_ix2, L3.w_lenT, L3.w_lenK, L3.w_int, L3.w_max, L3.w_min, L3.w_rng1, L3.w_rng2, L3.w_one, L3.w_ixK, List.getElem?_cons_zero, List.getElem?_cons_succ, List.set_cons_zero, List.set_cons_succ, Option.some.injEq, exists_eq_left', decide_eq_true_eq, Bool.false_eq_true, if_false, if_true]
    refine ⟨b, 201, rfl, by decide, hb', fun e M2 e0 e1 hb2 bt2 => ?_⟩
    obtain ⟨e', rfl⟩ := Int.eq_ofNat_of_zero_le e0
    refine ⟨n, e', rfl, by omega, ?_⟩
    rw [dRange_len] at n1
    obtain ⟨w0, w1⟩ := w_bound (e := e') n0 n1 (by omega) (by omega)
    rw [low_cn (by omega)]
    refine q _ _ w0 w1 ?_ hb2 (bt'.trans bt2)
    rw [← low_cn (by omega)]
    exact Nat.le_trans (low_le e' n) (by omega)
theorem len_app {xs : List Int} {y : Int} : (xs.map D.int ++ [D.int y]) = (xs ++ [y]).map D.int := by simp
theorem ok_digits : Keeps P0 sp5 8 b__law_digits := by
  rintro ds M Q X ⟨ns, rfl, q⟩
  show wpSs P0 b__law_digits _ _ [some (.kl (ns.map .int)), some (.int 0), some (.int 30), none, none, none, none, none] M
  unfold b__law_digits
  simp only [wpSs, wpS, wpE, wpEs, wpT, L3.w_add, L3.w_addS, L3.w_addT, L3.w_sub, L3.w_mul, L3.w_fdiv, L3.w_mod, L3.w_pow, L3.w_iadd, L3.w_isub, L3.w_neg, L3.w_lt, L3.w_le, L3.w_gt, L3.w_ge, L3.w_eq, L3.w_ne, L3.w_in, L3.w_nin, L3.w_tb, L3.w_ti, L3.w_tt, L3.w_ix0, L3.w_ix1, L3.w_ix2, L3.w_lenT, L3.w_lenK, L3.w_int, L3.w_max, L3.w_min, L3.w_rng1, L3.w_rng2, L3.w_one, L3.w_ixK, List.getElem?_cons_zero, List.getElem?_cons_succ, List.set_cons_zero, List.set_cons_succ, Option.some.injEq, exists_eq_left', decide_eq_true_eq, Bool.false_eq_true, if_false, if_true]
  refine ⟨by decide, fun p hp => ?_⟩
  simp only [wpSs, wpS, wpE, wpEs, wpT, L3.w_add, L3.w_addS, L3.w_addT, L3.w_sub, L3.w_mul, L3.w_fdiv, L3.w_mod, L3.w_pow, L3.w_iadd, L3.w_isub, L3.w_neg, L3.w_lt, L3.w_le, L3.w_gt, L3.w_ge, L3.w_eq, L3.w_ne, L3.w_in, L3.w_nin, L3.w_tb, L3.w_ti, L3.w_tt, L3.w_ix0, L3.w_ix1, L3.w_ix2, L3.w_lenT, L3.w_lenK, L3.w_int, L3.w_max, L3.w_min, L3.w_rng1, L3.w_rng2, L3.w_one, L3.w_ixK, List.getElem?_cons_zero, List.getElem?_cons_succ, List.set_cons_zero, List.set_cons_succ, Option.some.injEq, exists_eq_left', decide_eq_true_eq, Bool.false_eq_true, if_false, if_true]
  refine ⟨⟨sm (by decide) (by decide), sm (by decide) (by decide)⟩, forL_inv (fun i σ M' => But p M M' ∧ ∃ (ys : List Int) (a b c e : Option D), M' p = some (.lst (ys.map .int)) ∧ ys.length ≤ 60 * i ∧ σ = [some (.kl (ns.map .int)), some (.int 0), some (.int 30), some (.ref p), a, b, c, e])
    ⟨fun c hc => mset_ne hc, [], none, none, none, none, mset_same, Nat.le_refl _, rfl⟩ ?_ ?_⟩
  · rintro i x σ M' nx hx ⟨bt, ys, a, b, c, e, hM, hl, rfl⟩ hnx
    obtain ⟨hi, rfl⟩ := dRange_get' hx
    have hi : i < 30 := hi
    refine ⟨trivial, ?_⟩
    unfold b__law_digits_2
    simp only [wpSs, wpS, wpE, wpEs, wpT, L3.w_add, L3.w_addS, L3.w_addT, L3.w_sub, L3.w_mul, L3.w_fdiv, L3.w_mod, L3.w_pow, L3.w_iadd, L3.w_isub, L3.w_neg, L3.w_lt, L3.w_le, L3.w_gt, L3.w_ge, L3.w_eq, L3.w_ne, L3.w_in, L3.w_nin, L3.w_tb, L3.w_ti, L3.w_tt, L3.w_ix0, L3.w_ix1, L3.w_ix2, L3.w_lenT, L3.w_lenK, L3.w_int, L3.w_max, L3.w_min, L3.w_rng1, L3.w_rng2, L3.w_one, L3.w_ixK, List.getElem?_cons_zero, List.getElem?_cons_succ, List.set_cons_zero, List.set_cons_succ, Option.some.injEq, exists_eq_left', decide_eq_true_eq, Bool.false_eq_true, if_false, if_true]
    refine ⟨ns, i, by simp, fun n => ?_⟩
    have rest : ∀ n : Int, wpSs P0 (.cons (.ite (.val (.cmp .ge (.var 5) (.bin .pow (.int 10) (.int 18)))) (.cons (.for (.one 6) .range (.cons (.int 60) .nil) b__law_digits_0) .nil) (.cons (.set (.one 7) (.bin .mod (.blt .int (.cons (.bin .add (.bin .add (.bin .mul (.var 5) (.int 48271)) (.bin .mul (.var 4) (.int 69621))) (.int 11)) .nil)) (.int 2147483647))) (.cons (.for (.one 6) .range (.cons (.int 12) .nil) b__law_digits_1) .nil))) .nil) (fun x σ M => X x (id M))
        ⟨nx, fun d M => Q d (id M), fun σ M => wpSs P0 (.cons (.ret (.var 3)) .nil) (fun x _ M => X x M) ⟨fun _ M => Q .non M, Q, fun _ _ => False, fun _ _ => False⟩ σ (id M), nx⟩ [some (.kl (ns.map .int)), some (.int 0), some (.int 30), some (.ref p), some (.int (0 + (i : Int))), some (.int n), c, e] M' := fun n => by
      simp only [wpSs, wpS, wpE, wpEs, wpT, L3.w_add, L3.w_addS, L3.w_addT, L3.w_sub, L3.w_mul, L3.w_fdiv, L3.w_mod, L3.w_pow, L3.w_iadd, L3.w_isub, L3.w_neg, L3.w_lt, L3.w_le, L3.w_gt, L3.w_ge, L3.w_eq, L3.w_ne, L3.w_in, L3.w_nin, L3.w_tb, L3.w_ti, L3.w_tt, L3.w_ix0, L3.w_ix1, L3.w_ix2, L3.w_lenT, L3.w_lenK, L3.w_int, L3.w_max, L3.w_min, L3.w_rng1, L3.w_rng2, L3.w_one, L3.w_ixK, List.getElem?_cons_zero, List.getElem?_cons_succ, List.set_cons_zero, List.set_cons_succ, Option.some.injEq, exists_eq_left', decide_eq_true_eq, Bool.false_eq_true, if_false, if_true]
      refine ⟨⟨by decide, by decide, by decide⟩, ?_⟩
      split
      · refine ⟨sm (by decide) (by decide), forL_inv (fun j σ M' => But p M M' ∧ ∃ (ys : List Int) (n : Int) (c : Option D), M' p = some (.lst (ys.map .int)) ∧ ys.length ≤ 60 * i + j ∧ σ = [some (.kl (ns.map .int)), some (.int 0), some (.int 30), some (.ref p), some (.int (0 + (i : Int))), some (.int n), c, e]) ⟨bt, ys, n, c, hM, hl, rfl⟩ ?_ ?_⟩
        · rintro j x σ M' nx2 hx2 ⟨bt, ys, n, c, hM, hl, rfl⟩ hnx2
          obtain ⟨hj, rfl⟩ := dRange_get' hx2
          have hj : j < 60 := hj
          refine ⟨trivial, ?_⟩
          unfold b__law_digits_0
          simp only [wpSs, wpS, wpE, wpEs, wpT, L3.w_add, L3.w_addS, L3.w_addT, L3.w_sub, L3.w_mul, L3.w_fdiv, L3.w_mod, L3.w_pow, L3.w_iadd, L3.w_isub, L3.w_neg, L3.w_lt, L3.w_le, L3.w_gt, L3.w_ge, L3.w_eq, L3.w_ne, L3.w_in, L3.w_nin, L3.w_tb, L3.w_ti, L3.w_tt, L3.w_ix0, L3.w_ix1, L3.w_ix2, L3.w_lenT, L3.w_lenK, L3.w_int, L3.w_max, L3.w_min, L3.w_rng1, L3.w_rng2, L3.w_one, L3.w_ixK, List.getElem?_cons_zero, List.getElem?_cons_succ, List.set_cons_zero, List.set_cons_succ, Option.some.injEq, exists_eq_left', decide_eq_true_eq, Bool.false_eq_true, if_false, if_true]
          split
          · refine ⟨by rw [w_rcvL hM]; rfl, by decide, trivial, (w_app hM).mpr ⟨by rw [List.length_map]; show _ < 2 ^ 24; omega, ⟨by decide, by decide⟩, hnx2 _ _ ⟨fun k hk => (mset_ne hk).trans (bt k hk), ys ++ [n % 1000], n / 1000, _, by rw [mset_same, len_app], by rw [List.length_append]; show ys.length + 1 ≤ _; omega, rfl⟩⟩⟩
          · exact hnx2 _ _ ⟨bt, ys, n, _, hM, by omega, rfl⟩
        · rintro σ M' ⟨bt, ys, n, c, hM, hl, rfl⟩
          rw [dRange_len] at hl
          exact ⟨trivial, hnx _ _ ⟨bt, ys, _, _, _, _, hM, by omega, rfl⟩⟩
      · refine ⟨.inr ⟨by decide, by decide⟩, .inr ⟨by decide, by decide⟩, by decide, sm (by decide) (by decide), forL_inv (fun j σ M' => But p M M' ∧ ∃ (ys : List Int) (z : Int) (c : Option D), M' p = some (.lst (ys.map .int)) ∧ ys.length ≤ 60 * i + j ∧ σ = [some (.kl (ns.map .int)), some (.int 0), some (.int 30), some (.ref p), some (.int (0 + (i : Int))), some (.int n), c, some (.int z)]) ⟨bt, ys, _, c, hM, hl, rfl⟩ ?_ ?_⟩
        · rintro j x σ M' nx2 hx2 ⟨bt, ys, z, c, hM, hl, rfl⟩ hnx2
          obtain ⟨hj, rfl⟩ := dRange_get' hx2
          have hj : j < 12 := hj
          refine ⟨trivial, ?_⟩
          unfold b__law_digits_1
          simp only [wpSs, wpS, wpE, wpEs, wpT, L3.w_add, L3.w_addS, L3.w_addT, L3.w_sub, L3.w_mul, L3.w_fdiv, L3.w_mod, L3.w_pow, L3.w_iadd, L3.w_isub, L3.w_neg, L3.w_lt, L3.w_le, L3.w_gt, L3.w_ge, L3.w_eq, L3.w_ne, L3.w_in, L3.w_nin, L3.w_tb, L3.w_ti, L3.w_tt, L3.w_ix0, L3.w_ix1, L3.w_ix2, L3.w_lenT, L3.w_lenK, L3.w_int, L3.w_max, L3.w_min, L3.w_rng1, L3.w_rng2, L3.w_one, L3.w_ixK, List.getElem?_cons_zero, List.getElem?_cons_succ, List.set_cons_zero, List.set_cons_succ, Option.some.injEq, exists_eq_left', decide_eq_true_eq, Bool.false_eq_true, if_false, if_true]
          refine ⟨.inr ⟨by decide, by decide⟩, .inl ⟨by decide, by decide⟩, by decide, by rw [w_rcvL hM]; rfl, ⟨by decide, by decide⟩, by decide, trivial, (w_app hM).mpr ⟨by rw [List.length_map]; show _ < 2 ^ 24; omega, hnx2 _ _ ⟨fun k hk => (mset_ne hk).trans (bt k hk), ys ++ [_], _, _, by rw [mset_same, len_app], by rw [List.length_append]; show ys.length + 1 ≤ _; omega, rfl⟩⟩⟩
        · rintro σ M' ⟨bt, ys, z, c, hM, hl, rfl⟩
          rw [dRange_len] at hl
          exact ⟨trivial, hnx _ _ ⟨bt, ys, _, _, _, _, hM, by omega, rfl⟩⟩
    have rest' := rest
    simp only [wpSs, wpS, wpE, wpEs, wpT, L3.w_add, L3.w_addS, L3.w_addT, L3.w_sub, L3.w_mul, L3.w_fdiv, L3.w_mod, L3.w_pow, L3.w_iadd, L3.w_isub, L3.w_neg, L3.w_lt, L3.w_le, L3.w_gt, L3.w_ge, L3.w_eq, L3.w_ne, L3.w_in, L3.w_nin, L3.w_tb, L3.w_ti, L3.w_tt, L3.w_ix0, L3.w_ix1, L3.w_ix2, L3.w_lenT, L3.w_lenK, L3.w_int, L3.w_max, L3.w_min, L3.w_rng1, L3.w_rng2, L3.w_one, L3.w_ixK, List.getElem?_cons_zero, List.getElem?_cons_succ, List.set_cons_zero, List.set_cons_succ, Option.some.injEq, exists_eq_left', decide_eq_true_eq, Bool.false_eq_true, if_false, if_true] at rest' ⊢
    split
    · exact ⟨.inl ⟨by decide, by decide⟩, rest' _⟩
    · exact rest' n
  · rintro σ M' ⟨bt, ys, a, b, c, e, hM, hl, rfl⟩
    refine ⟨trivial, ?_⟩
    simp only [wpSs, wpS, wpE, wpEs, wpT, L3.w_add, L3.w_addS, L3.w_addT, L3.w_sub, L3.w_mul, L3.w_fdiv, L3.w_mod, L3.w_pow, L3.w_iadd, L3.w_isub, L3.w_neg, L3.w_lt, L3.w_le, L3.w_gt, L3.w_ge, L3.w_eq, L3.w_ne, L3.w_in, L3.w_nin, L3.w_tb, L3.w_ti, L3.w_tt, L3.w_ix0, L3.w_ix1, L3.w_ix2, L3.w_lenT, L3.w_lenK, L3.w_int, L3.w_max, L3.w_min, L3.w_rng1, L3.w_rng2, L3.w_one, L3.w_ixK, List.getElem?_cons_zero, List.getElem?_cons_succ, List.set_cons_zero, List.set_cons_succ, Option.some.injEq, exists_eq_left', decide_eq_true_eq, Bool.false_eq_true, if_false, if_true]
    exact q p ys M' hp hM bt
end K01
end
section
set_option autoImplicit false
set_option linter.all false
set_option maxRecDepth 100000
set_option exponentiation.threshold 3000
/-! k01: the law -/
namespace K01
open L3
open PySem (Addr Str PyData)

theorem shown_int {i : Int} {k : Nat} (hk : 0 < k) (h : i.natAbs < 2 ^ k) : (PyData.int i).shown.length ≤ k + 1 := by
  show (PySem.Str.ofString (toString i)).length ≤ k + 1
  rw [PySem.ofString_length]
  refine PySem.int_text_length_le hk ?_
  by_cases h0 : i.natAbs = 0
  · rw [h0]; show Nat.log2 0 < k; simpa using hk
  · exact (Nat.log2_lt h0).mpr h
theorem show_int {i : Int} (h : i.natAbs < 2 ^ 1200) : (PyData.int i).showable = true ∧ (PyData.int i).leavesShort 1930 = true := by
  refine ⟨?_, ?_⟩
  · show decide (i.natAbs.log2 < 1920) = true
    refine decide_eq_true ?_
    by_cases h0 : i.natAbs = 0
    · rw [h0]; decide
    · refine (Nat.log2_lt h0).mpr (Nat.lt_of_lt_of_le h ?_)
      exact Nat.pow_le_pow_right (by decide) (by decide)
  · show decide ((PyData.int i).shown.length ≤ 1930) = true
    exact decide_eq_true (Nat.le_trans (shown_int (by decide) h) (by decide))
theorem told_pr {x : Int × Nat} {M : Mp} (h1 : x.1.natAbs < 2 ^ 1200) (h2 : x.2 ≤ 1000) : Told2 (pr x) (pr x) M := by
  have hd : Deep M (pr x) (.tuple [.int x.1, .int x.2]) := .tup (.cons (.int _) (.cons (.int _) .nil))
  have h2' : ((x.2 : Int)).natAbs < 2 ^ 1200 := by
    have : (1000 : Nat) < 2 ^ 1200 := by decide +kernel
    omega
  obtain ⟨a1, a2⟩ := show_int h1
  obtain ⟨b1, b2⟩ := show_int h2'
  refine ⟨_, hd, hd, ?_, ?_, Nat.le_of_ble_eq_true rfl⟩
  · show (_ && (_ && true)) = true
    rw [a1, b1]; rfl
  · have hb := PyData.shown_le_bulk 1930 (by decide) (.tuple [.int x.1, .int x.2]) (by show (_ && (_ && true)) = true; rw [a2, b2]; rfl)
    refine Nat.le_trans hb ?_
    show (1930 + 2) * (0 + 1 + (0 + 1 + 0)) + 1930 ≤ 2 ^ 24
    decide
theorem pr_zero : pr (cn 0) = .tup [.int 0, .int 0] := by rw [cn_zero]; rfl
theorem small_of {s : Int} {k : Nat} (h0 : 0 ≤ s) (h1 : s < 2 ^ 1130) : s.natAbs < 2 ^ 1130 := by
  have : ((s.natAbs : Nat) : Int) < ((2 ^ 1130 : Nat) : Int) := by
    rw [Int.natAbs_of_nonneg h0]
    exact_mod_cast h1
  exact_mod_cast this
theorem told_cn {s : Int} {M : Mp} (h0 : 0 ≤ s) (h1 : s < 2 ^ 1140) : Told2 (pr (cn s)) (pr (cn s)) M := by
  refine told_pr (Nat.lt_of_le_of_lt (cn_small s) ?_) (cn_le s)
  have : ((s.natAbs : Nat) : Int) < ((2 ^ 1200 : Nat) : Int) := by
    rw [Int.natAbs_of_nonneg h0]
    refine Int.lt_of_lt_of_le h1 ?_
    have := pmono' (a := 2) (by decide) (show 1140 ≤ 1200 by decide)
    exact_mod_cast this
  exact_mod_cast this
/-- the k-th half -/
def hv (s : Int) (j : Nat) : Int := sg (cn s).1 ((cn s).2 + j)
def wv (s : Int) (j : Nat) : Int × Nat := low (cn s).1 ((cn s).2 + j)
theorem hv_zero (s : Int) : hv s 0 = s := sg_cn s
theorem hv_two {s : Int} {j : Nat} (hs : (cn s).2 ≤ 200) (hj : j ≤ 100) : 2 * hv s (j + 1) = hv s j := by
  show 2 * sg _ ((cn s).2 + j + 1) = _
  exact sg_half (by omega)
theorem wv_cn {s : Int} {j : Nat} (hs : (cn s).2 ≤ 200) (hj : j ≤ 101) : wv s j = cn (hv s j) := low_cn (by omega)
theorem wv_le {s : Int} {j : Nat} (hs : (cn s).2 ≤ 200) : (wv s j).2 ≤ 200 + j := Nat.le_trans (low_le _ _) (by omega)
theorem wv_half {s : Int} {j : Nat} (hs : (cn s).2 ≤ 200) (hj : j ≤ 100) : low (wv s j).1 ((wv s j).2 + 1) = wv s (j + 1) := by
  have h1 := wv_le (j := j) hs
  have a := sg_half (n := (wv s j).1) (e := (wv s j).2) (by omega)
  have b := hv_two hs hj
  have c : sg (wv s j).1 (wv s j).2 = hv s j := by rw [wv_cn (j := j) hs (by omega), sg_cn]
  have d : sg (wv s j).1 ((wv s j).2 + 1) = hv s (j + 1) := by omega
  rw [low_cn (by omega), wv_cn (j := j + 1) hs (by omega), d]
theorem neT {ds : List D} {M : Mp} {k : Bool → Prop} (hf : (D.tup ds).flat = true) (h : k false) : wpCmp .ne (.tup ds) (.tup ds) M k := wpEq_same (x := .tup ds) (M := M) (k := fun b => k (!b)) (fun _ z => nomatch z) hf h
theorem ok_law : Keeps P0 sp13 9 b_law := by
  rintro ds M Q X ⟨ns, rfl, rfl, q⟩
  show wpSs P0 b_law _ _ [some (.kl (ns.map .int)), none, none, none, none, none, none, none, none] _
  unfold b_law
  simp only [wpSs, wpS, wpE, wpEs, wpT, L3.w_add, L3.w_addS, L3.w_addT, L3.w_sub, L3.w_mul, L3.w_fdiv, L3.w_mod, L3.w_pow, L3.w_iadd, L3.w_isub, L3.w_neg, L3.w_lt, L3.w_le, L3.w_gt, L3.w_ge, L3.w_eq, L3.w_ne, L3.w_in, L3.w_nin, L3.w_tb, L3.w_ti, L3.w_tt, L3.w_ix0, L3.w_ix1, L3.w_ix2, L3.w_lenT, L3.w_lenK, L3.w_int, L3.w_max, L3.w_min, L3.w_rng1, L3.w_rng2, L3.w_one, L3.w_ixK, List.getElem?_cons_zero, List.getElem?_cons_succ, List.set_cons_zero, List.set_cons_succ, Option.some.injEq, exists_eq_left', decide_eq_true_eq, Bool.false_eq_true, if_false, if_true, Bool.not_true, Bool.not_false]
  refine ⟨ns, rfl, fun d ys M1 hd hM1 bt1 => ⟨len2 _ _, fun b hb => ?_⟩⟩
  have nb : b ≠ d := by rintro rfl; rw [hM1] at hb; cases hb
  have bx : Box (mset M1 b (.lst [.ref d, .int 0])) b := ⟨d, ys, 0, mset_same, (mset_ne nb.symm).trans hM1, nb⟩
  revert bx
  generalize mset M1 b (.lst [.ref d, .int 0]) = M2
  intro bx
  simp only [wpSs, wpS, wpE, wpEs, wpT, L3.w_add, L3.w_addS, L3.w_addT, L3.w_sub, L3.w_mul, L3.w_fdiv, L3.w_mod, L3.w_pow, L3.w_iadd, L3.w_isub, L3.w_neg, L3.w_lt, L3.w_le, L3.w_gt, L3.w_ge, L3.w_eq, L3.w_ne, L3.w_in, L3.w_nin, L3.w_tb, L3.w_ti, L3.w_tt, L3.w_ix0, L3.w_ix1, L3.w_ix2, L3.w_lenT, L3.w_lenK, L3.w_int, L3.w_max, L3.w_min, L3.w_rng1, L3.w_rng2, L3.w_one, L3.w_ixK, List.getElem?_cons_zero, List.getElem?_cons_succ, List.set_cons_zero, List.set_cons_succ, Option.some.injEq, exists_eq_left', decide_eq_true_eq, Bool.false_eq_true, if_false, if_true, Bool.not_true, Bool.not_false]
  refine ⟨len2 _ _, neT rfl ?_⟩
  simp only [wpSs, wpS, wpE, wpEs, wpT, L3.w_add, L3.w_addS, L3.w_addT, L3.w_sub, L3.w_mul, L3.w_fdiv, L3.w_mod, L3.w_pow, L3.w_iadd, L3.w_isub, L3.w_neg, L3.w_lt, L3.w_le, L3.w_gt, L3.w_ge, L3.w_eq, L3.w_ne, L3.w_in, L3.w_nin, L3.w_tb, L3.w_ti, L3.w_tt, L3.w_ix0, L3.w_ix1, L3.w_ix2, L3.w_lenT, L3.w_lenK, L3.w_int, L3.w_max, L3.w_min, L3.w_rng1, L3.w_rng2, L3.w_one, L3.w_ixK, List.getElem?_cons_zero, List.getElem?_cons_succ, List.set_cons_zero, List.set_cons_succ, Option.some.injEq, exists_eq_left', decide_eq_true_eq, Bool.false_eq_true, if_false, if_true, Bool.not_true, Bool.not_false]
  refine ⟨len2 _ _, neT rfl ?_⟩
  simp only [wpSs, wpS, wpE, wpEs, wpT, L3.w_add, L3.w_addS, L3.w_addT, L3.w_sub, L3.w_mul, L3.w_fdiv, L3.w_mod, L3.w_pow, L3.w_iadd, L3.w_isub, L3.w_neg, L3.w_lt, L3.w_le, L3.w_gt, L3.w_ge, L3.w_eq, L3.w_ne, L3.w_in, L3.w_nin, L3.w_tb, L3.w_ti, L3.w_tt, L3.w_ix0, L3.w_ix1, L3.w_ix2, L3.w_lenT, L3.w_lenK, L3.w_int, L3.w_max, L3.w_min, L3.w_rng1, L3.w_rng2, L3.w_one, L3.w_ixK, List.getElem?_cons_zero, List.getElem?_cons_succ, List.set_cons_zero, List.set_cons_succ, Option.some.injEq, exists_eq_left', decide_eq_true_eq, Bool.false_eq_true, if_false, if_true, Bool.not_true, Bool.not_false]
  refine ⟨b, rfl, bx, fun s M3 s0 s1 s2 bx3 _ => ?_⟩
  simp only [wpSs, wpS, wpE, wpEs, wpT, L3.w_add, L3.w_addS, L3.w_addT, L3.w_sub, L3.w_mul, L3.w_fdiv, L3.w_mod, L3.w_pow, L3.w_iadd, L3.w_isub, L3.w_neg, L3.w_lt, L3.w_le, L3.w_gt, L3.w_ge, L3.w_eq, L3.w_ne, L3.w_in, L3.w_nin, L3.w_tb, L3.w_ti, L3.w_tt, L3.w_ix0, L3.w_ix1, L3.w_ix2, L3.w_lenT, L3.w_lenK, L3.w_int, L3.w_max, L3.w_min, L3.w_rng1, L3.w_rng2, L3.w_one, L3.w_ixK, List.getElem?_cons_zero, List.getElem?_cons_succ, List.set_cons_zero, List.set_cons_succ, Option.some.injEq, exists_eq_left', decide_eq_true_eq, Bool.false_eq_true, if_false, if_true, Bool.not_true, Bool.not_false]
  refine ⟨b, rfl, bx3, fun t M4 t0 t1 t2 bx4 _ => ?_⟩
  simp only [wpSs, wpS, wpE, wpEs, wpT, L3.w_add, L3.w_addS, L3.w_addT, L3.w_sub, L3.w_mul, L3.w_fdiv, L3.w_mod, L3.w_pow, L3.w_iadd, L3.w_isub, L3.w_neg, L3.w_lt, L3.w_le, L3.w_gt, L3.w_ge, L3.w_eq, L3.w_ne, L3.w_in, L3.w_nin, L3.w_tb, L3.w_ti, L3.w_tt, L3.w_ix0, L3.w_ix1, L3.w_ix2, L3.w_lenT, L3.w_lenK, L3.w_int, L3.w_max, L3.w_min, L3.w_rng1, L3.w_rng2, L3.w_one, L3.w_ixK, List.getElem?_cons_zero, List.getElem?_cons_succ, List.set_cons_zero, List.set_cons_succ, Option.some.injEq, exists_eq_left', decide_eq_true_eq, Bool.false_eq_true, if_false, if_true, Bool.not_true, Bool.not_false]
  refine ⟨b, rfl, bx4, fun u M5 u0 u1 u2 bx5 _ => ?_⟩
  have big : ∀ k : Nat, k ≤ 1140 → (2 : Int) ^ k ≤ 2 ^ 1140 := fun k hk => pmono' (by decide) hk
  have b2 : (2 : Int) ^ 1130 + 2 ^ 1130 + 2 ^ 1130 < 2 ^ 1140 := by decide +kernel
  have pp : (0 : Int) < 2 ^ 1130 := two_pos 1130
  have es : sg (cn s).1 (cn s).2 = s := sg_cn s
  have et : sg (cn t).1 (cn t).2 = t := sg_cn t
  have eu : sg (cn u).1 (cn u).2 = u := sg_cn u
  -- half, plus
  have hh : low (cn s).1 ((cn s).2 + 1) = cn (hv s 1) := low_cn (by omega)
  have h2 : 2 * hv s 1 = s := by
    have := hv_two (j := 0) s2 (by omega)
    rwa [hv_zero] at this
  simp only [wpSs, wpS, wpE, wpEs, wpT, L3.w_add, L3.w_addS, L3.w_addT, L3.w_sub, L3.w_mul, L3.w_fdiv, L3.w_mod, L3.w_pow, L3.w_iadd, L3.w_isub, L3.w_neg, L3.w_lt, L3.w_le, L3.w_gt, L3.w_ge, L3.w_eq, L3.w_ne, L3.w_in, L3.w_nin, L3.w_tb, L3.w_ti, L3.w_tt, L3.w_ix0, L3.w_ix1, L3.w_ix2, L3.w_lenT, L3.w_lenK, L3.w_int, L3.w_max, L3.w_min, L3.w_rng1, L3.w_rng2, L3.w_one, L3.w_ixK, List.getElem?_cons_zero, List.getElem?_cons_succ, List.set_cons_zero, List.set_cons_succ, Option.some.injEq, exists_eq_left', decide_eq_true_eq, Bool.false_eq_true, if_false, if_true, Bool.not_true, Bool.not_false]
  refine ⟨cn s, rfl, ?_⟩
  unfold pr
  simp only [wpSs, wpS, wpE, wpEs, wpT, L3.w_add, L3.w_addS, L3.w_addT, L3.w_sub, L3.w_mul, L3.w_fdiv, L3.w_mod, L3.w_pow, L3.w_iadd, L3.w_isub, L3.w_neg, L3.w_lt, L3.w_le, L3.w_gt, L3.w_ge, L3.w_eq, L3.w_ne, L3.w_in, L3.w_nin, L3.w_tb, L3.w_ti, L3.w_tt, L3.w_ix0, L3.w_ix1, L3.w_ix2, L3.w_lenT, L3.w_lenK, L3.w_int, L3.w_max, L3.w_min, L3.w_rng1, L3.w_rng2, L3.w_one, L3.w_ixK, List.getElem?_cons_zero, List.getElem?_cons_succ, List.set_cons_zero, List.set_cons_succ, Option.some.injEq, exists_eq_left', decide_eq_true_eq, Bool.false_eq_true, if_false, if_true, Bool.not_true, Bool.not_false]
  refine ⟨(cn s).1, (cn s).2 + 1, rfl, by omega, ?_⟩
  rw [hh]
  refine ⟨_, _, rfl, told_cn (by omega) (by omega), ?_⟩
  simp only [wpSs, wpS, wpE, wpEs, wpT, L3.w_add, L3.w_addS, L3.w_addT, L3.w_sub, L3.w_mul, L3.w_fdiv, L3.w_mod, L3.w_pow, L3.w_iadd, L3.w_isub, L3.w_neg, L3.w_lt, L3.w_le, L3.w_gt, L3.w_ge, L3.w_eq, L3.w_ne, L3.w_in, L3.w_nin, L3.w_tb, L3.w_ti, L3.w_tt, L3.w_ix0, L3.w_ix1, L3.w_ix2, L3.w_lenT, L3.w_lenK, L3.w_int, L3.w_max, L3.w_min, L3.w_rng1, L3.w_rng2, L3.w_one, L3.w_ixK, List.getElem?_cons_zero, List.getElem?_cons_succ, List.set_cons_zero, List.set_cons_succ, Option.some.injEq, exists_eq_left', decide_eq_true_eq, Bool.false_eq_true, if_false, if_true, Bool.not_true, Bool.not_false]
  refine ⟨cn s, cn t, rfl, by omega, by omega, cn s, cn t, rfl, s2, t2, ?_⟩
  rw [es, et]
  refine ⟨_, _, rfl, told_cn (by omega) (by omega), ?_⟩
  simp only [wpSs, wpS, wpE, wpEs, wpT, L3.w_add, L3.w_addS, L3.w_addT, L3.w_sub, L3.w_mul, L3.w_fdiv, L3.w_mod, L3.w_pow, L3.w_iadd, L3.w_isub, L3.w_neg, L3.w_lt, L3.w_le, L3.w_gt, L3.w_ge, L3.w_eq, L3.w_ne, L3.w_in, L3.w_nin, L3.w_tb, L3.w_ti, L3.w_tt, L3.w_ix0, L3.w_ix1, L3.w_ix2, L3.w_lenT, L3.w_lenK, L3.w_int, L3.w_max, L3.w_min, L3.w_rng1, L3.w_rng2, L3.w_one, L3.w_ixK, List.getElem?_cons_zero, List.getElem?_cons_succ, List.set_cons_zero, List.set_cons_succ, Option.some.injEq, exists_eq_left', decide_eq_true_eq, Bool.false_eq_true, if_false, if_true, Bool.not_true, Bool.not_false]
  -- plus and minus
  refine ⟨cn s, cn t, rfl, by omega, by omega, ?_⟩
  rw [es, et]
  have est : sg (cn (s + t)).1 (cn (s + t)).2 = s + t := sg_cn _
  have ets : sg (cn (t + s)).1 (cn (t + s)).2 = t + s := sg_cn _
  refine ⟨cn (s + t), cn u, rfl, cn_le _, by omega, ?_⟩
  rw [est, eu]
  refine ⟨cn t, cn s, rfl, by omega, by omega, ?_⟩
  rw [es, et]
  refine ⟨cn u, cn (t + s), rfl, by omega, cn_le _, ?_⟩
  rw [ets, eu, show u + (t + s) = s + t + u by omega]
  refine ⟨_, _, rfl, told_cn (by omega) (by omega), ?_⟩
  simp only [wpSs, wpS, wpE, wpEs, wpT, L3.w_add, L3.w_addS, L3.w_addT, L3.w_sub, L3.w_mul, L3.w_fdiv, L3.w_mod, L3.w_pow, L3.w_iadd, L3.w_isub, L3.w_neg, L3.w_lt, L3.w_le, L3.w_gt, L3.w_ge, L3.w_eq, L3.w_ne, L3.w_in, L3.w_nin, L3.w_tb, L3.w_ti, L3.w_tt, L3.w_ix0, L3.w_ix1, L3.w_ix2, L3.w_lenT, L3.w_lenK, L3.w_int, L3.w_max, L3.w_min, L3.w_rng1, L3.w_rng2, L3.w_one, L3.w_ixK, List.getElem?_cons_zero, List.getElem?_cons_succ, List.set_cons_zero, List.set_cons_succ, Option.some.injEq, exists_eq_left', decide_eq_true_eq, Bool.false_eq_true, if_false, if_true, Bool.not_true, Bool.not_false]
  refine ⟨cn s, cn t, rfl, by omega, by omega, ?_⟩
  rw [es, et]
  refine ⟨cn (s + t), cn t, rfl, cn_le _, by omega, ?_⟩
  rw [est, et, show s + t - t = s by omega]
  refine ⟨_, _, rfl, told_cn (by omega) (by omega), ?_⟩
  simp only [wpSs, wpS, wpE, wpEs, wpT, L3.w_add, L3.w_addS, L3.w_addT, L3.w_sub, L3.w_mul, L3.w_fdiv, L3.w_mod, L3.w_pow, L3.w_iadd, L3.w_isub, L3.w_neg, L3.w_lt, L3.w_le, L3.w_gt, L3.w_ge, L3.w_eq, L3.w_ne, L3.w_in, L3.w_nin, L3.w_tb, L3.w_ti, L3.w_tt, L3.w_ix0, L3.w_ix1, L3.w_ix2, L3.w_lenT, L3.w_lenK, L3.w_int, L3.w_max, L3.w_min, L3.w_rng1, L3.w_rng2, L3.w_one, L3.w_ixK, List.getElem?_cons_zero, List.getElem?_cons_succ, List.set_cons_zero, List.set_cons_succ, Option.some.injEq, exists_eq_left', decide_eq_true_eq, Bool.false_eq_true, if_false, if_true, Bool.not_true, Bool.not_false]
  -- nought
  have ez : sg (0 : Int) 0 = 0 := by simp [sg]
  refine ⟨cn s, cn s, rfl, by omega, by omega, ?_⟩
  rw [es, show s - s = 0 by omega, pr_zero]
  refine ⟨_, _, rfl, ?_, ?_⟩
  · have := told_cn (s := 0) (M := M5) (by omega) (two_pos _)
    rwa [pr_zero] at this
  simp only [wpSs, wpS, wpE, wpEs, wpT, L3.w_add, L3.w_addS, L3.w_addT, L3.w_sub, L3.w_mul, L3.w_fdiv, L3.w_mod, L3.w_pow, L3.w_iadd, L3.w_isub, L3.w_neg, L3.w_lt, L3.w_le, L3.w_gt, L3.w_ge, L3.w_eq, L3.w_ne, L3.w_in, L3.w_nin, L3.w_tb, L3.w_ti, L3.w_tt, L3.w_ix0, L3.w_ix1, L3.w_ix2, L3.w_lenT, L3.w_lenK, L3.w_int, L3.w_max, L3.w_min, L3.w_rng1, L3.w_rng2, L3.w_one, L3.w_ixK, List.getElem?_cons_zero, List.getElem?_cons_succ, List.set_cons_zero, List.set_cons_succ, Option.some.injEq, exists_eq_left', decide_eq_true_eq, Bool.false_eq_true, if_false, if_true, Bool.not_true, Bool.not_false]
  refine ⟨cn s, (0, 0), rfl, by omega, by omega, ?_⟩
  rw [es, show sg (((0, 0) : Int × Nat)).1 ((0, 0) : Int × Nat).2 = 0 from ez, show s + 0 = s by omega]
  refine ⟨_, _, rfl, told_cn (by omega) (by omega), ?_⟩
  simp only [wpSs, wpS, wpE, wpEs, wpT, L3.w_add, L3.w_addS, L3.w_addT, L3.w_sub, L3.w_mul, L3.w_fdiv, L3.w_mod, L3.w_pow, L3.w_iadd, L3.w_isub, L3.w_neg, L3.w_lt, L3.w_le, L3.w_gt, L3.w_ge, L3.w_eq, L3.w_ne, L3.w_in, L3.w_nin, L3.w_tb, L3.w_ti, L3.w_tt, L3.w_ix0, L3.w_ix1, L3.w_ix2, L3.w_lenT, L3.w_lenK, L3.w_int, L3.w_max, L3.w_min, L3.w_rng1, L3.w_rng2, L3.w_one, L3.w_ixK, List.getElem?_cons_zero, List.getElem?_cons_succ, List.set_cons_zero, List.set_cons_succ, Option.some.injEq, exists_eq_left', decide_eq_true_eq, Bool.false_eq_true, if_false, if_true, Bool.not_true, Bool.not_false]
  refine ⟨cn s, (0, 0), rfl, by omega, by omega, ?_⟩
  rw [es, show sg (((0, 0) : Int × Nat)).1 ((0, 0) : Int × Nat).2 = 0 from ez, show s - 0 = s by omega]
  refine ⟨_, _, rfl, told_cn (by omega) (by omega), ?_⟩
  simp only [wpSs, wpS, wpE, wpEs, wpT, L3.w_add, L3.w_addS, L3.w_addT, L3.w_sub, L3.w_mul, L3.w_fdiv, L3.w_mod, L3.w_pow, L3.w_iadd, L3.w_isub, L3.w_neg, L3.w_lt, L3.w_le, L3.w_gt, L3.w_ge, L3.w_eq, L3.w_ne, L3.w_in, L3.w_nin, L3.w_tb, L3.w_ti, L3.w_tt, L3.w_ix0, L3.w_ix1, L3.w_ix2, L3.w_lenT, L3.w_lenK, L3.w_int, L3.w_max, L3.w_min, L3.w_rng1, L3.w_rng2, L3.w_one, L3.w_ixK, List.getElem?_cons_zero, List.getElem?_cons_succ, List.set_cons_zero, List.set_cons_succ, Option.some.injEq, exists_eq_left', decide_eq_true_eq, Bool.false_eq_true, if_false, if_true, Bool.not_true, Bool.not_false]
  refine ⟨Nat.zero_le _, fun p hp => ?_⟩
  -- the halves
  refine ⟨b, 60, rfl, by decide, box_new bx5 hp, fun r M6 r0 r1 _ bt6 => ?_⟩
  obtain ⟨r', rfl⟩ := Int.eq_ofNat_of_zero_le r0
  have npb : p ≠ b := by
    rintro rfl
    obtain ⟨_, _, _, z, _⟩ := bx5
    rw [hp] at z; cases z
  have h6 : M6 p = some (.lst []) := by rw [bt6 p npb, mset_same]
  simp only [wpSs, wpS, wpE, wpEs, wpT, L3.w_add, L3.w_addS, L3.w_addT, L3.w_sub, L3.w_mul, L3.w_fdiv, L3.w_mod, L3.w_pow, L3.w_iadd, L3.w_isub, L3.w_neg, L3.w_lt, L3.w_le, L3.w_gt, L3.w_ge, L3.w_eq, L3.w_ne, L3.w_in, L3.w_nin, L3.w_tb, L3.w_ti, L3.w_tt, L3.w_ix0, L3.w_ix1, L3.w_ix2, L3.w_lenT, L3.w_lenK, L3.w_int, L3.w_max, L3.w_min, L3.w_rng1, L3.w_rng2, L3.w_one, L3.w_ixK, List.getElem?_cons_zero, List.getElem?_cons_succ, List.set_cons_zero, List.set_cons_succ, Option.some.injEq, exists_eq_left', decide_eq_true_eq, Bool.false_eq_true, if_false, if_true, Bool.not_true, Bool.not_false]
  have hw : pr (wv s 0) = pr (cn s) := by rw [wv_cn s2 (by omega), hv_zero]
  refine ⟨sm (by omega) (by omega), forL_inv (fun i σ M' => M' p = some (.lst ((List.range i).map fun j => pr (wv s (j + 1)))) ∧ ∃ c, σ = [some (.kl (ns.map .int)), some (.ref b), some (pr (cn s)), some (pr (cn t)), some (pr (cn u)), some (pr (wv s i)), some (.ref p), c, none]) ⟨h6, none, by rw [hw]; rfl⟩ ?_ ?_⟩
  · rintro i x σ M' nx hx ⟨hM, c, rfl⟩ hnx
    obtain ⟨hi, rfl⟩ := dRange_get' hx
    refine ⟨trivial, ?_⟩
    unfold b_law_1
    simp only [wpSs, wpS, wpE, wpEs, wpT, L3.w_add, L3.w_addS, L3.w_addT, L3.w_sub, L3.w_mul, L3.w_fdiv, L3.w_mod, L3.w_pow, L3.w_iadd, L3.w_isub, L3.w_neg, L3.w_lt, L3.w_le, L3.w_gt, L3.w_ge, L3.w_eq, L3.w_ne, L3.w_in, L3.w_nin, L3.w_tb, L3.w_ti, L3.w_tt, L3.w_ix0, L3.w_ix1, L3.w_ix2, L3.w_lenT, L3.w_lenK, L3.w_int, L3.w_max, L3.w_min, L3.w_rng1, L3.w_rng2, L3.w_one, L3.w_ixK, List.getElem?_cons_zero, List.getElem?_cons_succ, List.set_cons_zero, List.set_cons_succ, Option.some.injEq, exists_eq_left', decide_eq_true_eq, Bool.false_eq_true, if_false, if_true, Bool.not_true, Bool.not_false]
    refine ⟨wv s i, rfl, ?_⟩
    rw [wv_half s2 (by omega)]
    refine ⟨by rw [w_rcvL hM]; rfl, trivial, (w_app hM).mpr ⟨by rw [List.length_map, List.length_range]; show _ < 2 ^ 24; omega, hnx _ _ ⟨?_, some (.int (0 + (i : Int))), rfl⟩⟩⟩
    rw [mset_same, List.range_succ, List.map_append]
    rfl
  · rintro σ M' ⟨hM, c, rfl⟩
    rw [dRange_len, show ((1 : Int) + (r' : Int) - 0).toNat = r' + 1 by omega] at *
    refine ⟨trivial, ?_⟩
    simp only [wpSs, wpS, wpE, wpEs, wpT, L3.w_add, L3.w_addS, L3.w_addT, L3.w_sub, L3.w_mul, L3.w_fdiv, L3.w_mod, L3.w_pow, L3.w_iadd, L3.w_isub, L3.w_neg, L3.w_lt, L3.w_le, L3.w_gt, L3.w_ge, L3.w_eq, L3.w_ne, L3.w_in, L3.w_nin, L3.w_tb, L3.w_ti, L3.w_tt, L3.w_ix0, L3.w_ix1, L3.w_ix2, L3.w_lenT, L3.w_lenK, L3.w_int, L3.w_max, L3.w_min, L3.w_rng1, L3.w_rng2, L3.w_one, L3.w_ixK, List.getElem?_cons_zero, List.getElem?_cons_succ, List.set_cons_zero, List.set_cons_succ, Option.some.injEq, exists_eq_left', decide_eq_true_eq, Bool.false_eq_true, if_false, if_true, Bool.not_true, Bool.not_false]
    refine (w_rev hM).mpr ?_
    refine forL_inv (fun i σ M'' => M'' = M' ∧ i ≤ r' + 1 ∧ ∃ c e, σ = [some (.kl (ns.map .int)), some (.ref b), some (pr (cn s)), some (pr (cn t)), some (pr (cn u)), some (pr (wv s (r' + 1 - i))), some (.ref p), c, e]) ⟨rfl, Nat.zero_le _, c, none, rfl⟩ ?_ ?_
    · rintro i x σ M'' nx hx ⟨rfl, hi, c, e, rfl⟩ hnx
      refine ⟨hM, ?_⟩
      have hlt : i < r' + 1 := by
        have := (List.getElem?_eq_some_iff.mp hx).1
        simpa using this
      rw [List.getElem?_reverse (by simpa using hlt)] at hx
      have hx' : x = pr (wv s (r' + 1 - 1 - i + 1)) := by
        rw [List.length_map, List.length_range, List.getElem?_map, List.getElem?_range (by omega)] at hx
        exact (Option.some.inj hx).symm
      subst hx'
      unfold b_law_0
      simp only [wpSs, wpS, wpE, wpEs, wpT, L3.w_add, L3.w_addS, L3.w_addT, L3.w_sub, L3.w_mul, L3.w_fdiv, L3.w_mod, L3.w_pow, L3.w_iadd, L3.w_isub, L3.w_neg, L3.w_lt, L3.w_le, L3.w_gt, L3.w_ge, L3.w_eq, L3.w_ne, L3.w_in, L3.w_nin, L3.w_tb, L3.w_ti, L3.w_tt, L3.w_ix0, L3.w_ix1, L3.w_ix2, L3.w_lenT, L3.w_lenK, L3.w_int, L3.w_max, L3.w_min, L3.w_rng1, L3.w_rng2, L3.w_one, L3.w_ixK, List.getElem?_cons_zero, List.getElem?_cons_succ, List.set_cons_zero, List.set_cons_succ, Option.some.injEq, exists_eq_left', decide_eq_true_eq, Bool.false_eq_true, if_false, if_true, Bool.not_true, Bool.not_false]
      have a1 := wv_le (j := r' + 1 - i) s2
      rw [show r' + 1 - 1 - i + 1 = r' + 1 - i by omega]
      refine ⟨wv s (r' + 1 - i), wv s (r' + 1 - i), rfl, by omega, by omega, ?_⟩
      have e1 : sg (wv s (r' + 1 - i)).1 (wv s (r' + 1 - i)).2 = hv s (r' + 1 - i) := by rw [wv_cn (j := r' + 1 - i) s2 (by omega), sg_cn]
      have e2 := hv_two (j := r' + 1 - (i + 1)) s2 (by omega)
      rw [show r' + 1 - (i + 1) + 1 = r' + 1 - i by omega] at e2
      rw [e1, show hv s (r' + 1 - i) + hv s (r' + 1 - i) = hv s (r' + 1 - (i + 1)) by omega, ← wv_cn s2 (by omega)]
      exact hnx _ _ ⟨rfl, by omega, c, _, rfl⟩
    · rintro σ M'' ⟨rfl, hi, c, e, rfl⟩
      refine ⟨hM, ?_⟩
      simp only [wpSs, wpS, wpE, wpEs, wpT, L3.w_add, L3.w_addS, L3.w_addT, L3.w_sub, L3.w_mul, L3.w_fdiv, L3.w_mod, L3.w_pow, L3.w_iadd, L3.w_isub, L3.w_neg, L3.w_lt, L3.w_le, L3.w_gt, L3.w_ge, L3.w_eq, L3.w_ne, L3.w_in, L3.w_nin, L3.w_tb, L3.w_ti, L3.w_tt, L3.w_ix0, L3.w_ix1, L3.w_ix2, L3.w_lenT, L3.w_lenK, L3.w_int, L3.w_max, L3.w_min, L3.w_rng1, L3.w_rng2, L3.w_one, L3.w_ixK, List.getElem?_cons_zero, List.getElem?_cons_succ, List.set_cons_zero, List.set_cons_succ, Option.some.injEq, exists_eq_left', decide_eq_true_eq, Bool.false_eq_true, if_false, if_true, Bool.not_true, Bool.not_false]
      rw [List.length_reverse, List.length_map, List.length_range, Nat.sub_self, hw]
      exact ⟨_, _, rfl, told_cn (by omega) (by omega), q _⟩
end K01
end
section
set_option Elab.async false
set_option linter.all false
set_option maxRecDepth 100000
set_option maxHeartbeats 0
namespace K01
open L3 PySem.Spec PyProof.Rows L2
open PySem (Addr Str PyData)
theorem len_of {n : Nat} {xs : List D} {A B : Prop} (h : xs.length = n) : xs.length = n := h
theorem S0 : StP P0 gl ds 0 p__law_lowest := ⟨sc__law_lowest, ir__law_lowest, fun xs M Q X h => by obtain ⟨n, e, rfl, _⟩ := h; rfl, ok_lowest0, bd__law_lowest⟩
theorem S1 : StP P0 gl ds 1 p__law_draw := ⟨sc__law_draw, ir__law_draw, fun xs M Q X h => by obtain ⟨n, e, rfl, _⟩ := h; rfl, ok_draw, bd__law_draw⟩
theorem S2 : StP P0 gl ds 2 p__law_weight := ⟨sc__law_weight, ir__law_weight, fun xs M Q X h => by obtain ⟨n, rfl, _⟩ := h; rfl, ok_weight, bd__law_weight⟩
theorem S3 : StP P0 gl ds 3 p__law_same := ⟨sc__law_same, ir__law_same, fun xs M Q X h => by obtain ⟨n, e, rfl, _⟩ := h; rfl, ok_same, bd__law_same⟩
theorem S4 : StP P0 gl ds 4 p__law_cell := ⟨sc__law_cell, ir__law_cell, fun xs M Q X h => by obtain ⟨n, e, rfl, _⟩ := h; rfl, ok_cell, bd__law_cell⟩
theorem S5 : StP P0 gl ds 5 p__law_digits := ⟨sc__law_digits, ir__law_digits, fun xs M Q X h => by obtain ⟨n, rfl, _⟩ := h; rfl, ok_digits, bd__law_digits⟩
theorem S6 : StP P0 gl ds 6 p_lowest := ⟨sc_lowest, ir_lowest, fun xs M Q X h => by obtain ⟨n, e, rfl, _⟩ := h; rfl, ok_lowest, bd_lowest⟩
theorem S7 : StP P0 gl ds 7 p_half := ⟨sc_half, ir_half, fun xs M Q X h => by obtain ⟨n, rfl, _⟩ := h; rfl, ok_half, bd_half⟩
theorem S8 : StP P0 gl ds 8 p_raised := ⟨sc_raised, ir_raised, fun xs M Q X h => by obtain ⟨n, e, rfl, _⟩ := h; rfl, ok_raised, bd_raised⟩
theorem S9 : StP P0 gl ds 9 p_plus := ⟨sc_plus, ir_plus, fun xs M Q X h => by obtain ⟨n, e, rfl, _⟩ := h; rfl, ok_plus, bd_plus⟩
theorem S10 : StP P0 gl ds 10 p__law_doubled := ⟨sc__law_doubled, ir__law_doubled, fun xs M Q X h => by obtain ⟨n, e, rfl, _⟩ := h; rfl, ok_doubled, bd__law_doubled⟩
theorem S11 : StP P0 gl ds 11 p__law_sum := ⟨sc__law_sum, ir__law_sum, fun xs M Q X h => by obtain ⟨n, e, rfl, _⟩ := h; rfl, ok_sum, bd__law_sum⟩
theorem S12 : StP P0 gl ds 12 p_minus := ⟨sc_minus, ir_minus, fun xs M Q X h => by obtain ⟨n, e, rfl, _⟩ := h; rfl, ok_minus, bd_minus⟩
theorem S13 : StP P0 gl ds 13 p_law := ⟨sc_law, ir_law, fun xs M Q X h => by obtain ⟨n, rfl, _⟩ := h; rfl, ok_law, bd_law⟩
theorem allS0 : AllD (StP P0 gl ds) 0 ds := ⟨S0, S1, S2, S3, S4, S5, S6, S7, S8, S9, S10, S11, S12, S13, trivial⟩
end K01
open PySem PySem.W PySem.Calls PyProof.Rows
theorem PySem.Challenge.cw_vatlink_k01_weights_exact_holds : PySem.Challenge.rw_vatlink_k01_weights_exact.Holds := by
  w_on; o_law
  refine HandSHeadRun.head_any (r := OpenLaw.row PySem.Challenge.rw_vatlink_k01_weights_exact) (q := view (OpenLaw.row PySem.Challenge.rw_vatlink_k01_weights_exact).prog [19]) (H := L3.hookOf K01.gl K01.ds) (ob := L3.obOf K01.gl K01.ds) (M := 4000) (loose := K01.loose) (d := HandSHeadRun.topDef (OpenLaw.row PySem.Challenge.rw_vatlink_k01_weights_exact).prog 19) (kwd := []) (L3.obOf_eq K01.gl K01.ds)
    (by kernel_rfl) (fun s => by kernel_rfl) K01.run (by kernel_rfl) (by kernel_rfl) (by kernel_rfl) (by rfl) (by first | assumption | decide +kernel) (by decide +kernel) ⟨rfl, rfl, rfl, rfl, rfl, by decide +kernel⟩ ?hw ?hc
  case hw => w_witness2
  case hc =>
    refine L3.hc3 (l := PySem.Challenge.rw_vatlink_k01_weights_exact) (n := 63) (m := 13) (x := "_law_script") (P := K01.P0) (dl := K01.p_law) rfl (by decide) (by kernel_rfl) (by decide +kernel) K01.allS0 rfl rfl (by kernel_rfl) ⟨rfl, by decide, by decide⟩ fun ns hn Q X q => ⟨ns, rfl, rfl, q⟩
end

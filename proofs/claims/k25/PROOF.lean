import PyProof.Rows.All
import KE.KDictKeyed
import PyProof.StrBlock2
import KE.SortData
import Wide.All
import OpenK.AllK
import Wide.FinOn
import HandS.ForMost
import HandS.TupAny
import KE.KeyNested
import PyProof.NeData
import PyProof.DictMoreH
import PyProof.DictTruth
import KE.KDictCopyH
import PyProof.ReprReads
import HandS.Style
import HandS.DictTup
import HandS.Conv
import KE.KDictSum
import HandS.Strs
import HandS.Replace
import HandS.More
import HandS.HeadWalk
import HandS.Text
import HandS.IsInst
import HandS.Rev
import HandS.TryOnly
import KE.KDictWalk
import HandS.Comp
import HandS.DictComp
import PyProof.DictDisplay
import HandS.Codes
import HandS.Ends
import KE.KStateDown
import HandS.Defaults
import HandS.Head0
import HandS.Head1
import HandS.Head2
import HandS.HeadEnd
import HandS.HeadHook1
import HandS.HeadHook2
import PyProof.Rows.RegRepr
import PyProof.ReprBulk
import PySem.Challenge.RW_vatlink_k25_records_settle_once
section
set_option autoImplicit false
set_option linter.all false
/-! L3: values with tuples by value, mutable objects at addresses, a small language, its weakest preconditions -/
namespace L3
open PySem

/-- a value: tuples by value; lists, dicts, instances by their address; kl: a list that nothing changes -/
inductive D where
  | non
  | bl (b : Bool)
  | int (i : Int)
  | str (x : Str)
  | tup (ds : List D)
  | ref (a : Addr)
  | kl (ds : List D)
  /-- a tuple of the module -/
  | kt (ds : List D)
  | exn (c : Nat) (ds : List D)
  deriving Inhabited

/-- a mutable object; dcT: a dict whose keys are tuples; lck, lkT: a dict while it is walked -/
inductive MO where
  | lst (ds : List D)
  | dct (kvs : List (D × D))
  | lck (kvs : List (D × D))
  | dcT (kvs : List (D × D))
  | lkT (kvs : List (D × D))
  | ins (c : Nat) (fs : List (Str × D))

abbrev Mp := Addr → Option MO
abbrev Lo := List (Option D)
abbrev Post := D → Mp → Prop
/-- a def's meaning: arguments, heap, what is wanted of the value, of an exception -/
abbrev Spec := List D → Mp → Post → Post → Prop

def mset (M : Mp) (a : Addr) (o : MO) : Mp := fun b => if b = a then some o else M b
theorem mset_same {M : Mp} {a : Addr} {o : MO} : mset M a o a = some o := if_pos rfl
theorem mset_ne {M : Mp} {a b : Addr} {o : MO} (h : b ≠ a) : mset M a o b = M b := if_neg h

mutual
def D.pure : D → Bool
  | .non | .bl _ | .int _ | .str _ => true
  | .tup ds => D.pures ds
  | .kt ds => D.pures ds
  | .ref _ | .exn _ _ | .kl _ => false
def D.pures : List D → Bool
  | [] => true
  | d :: ds => d.pure && D.pures ds
end
mutual
/-- a value up to == -/
def D.key : D → NestedKey
  | .non => .none
  | .bl b => .num (if b = true then 1 else 0)
  | .int i => .num i
  | .str x => .text x
  | .tup ds => .tup (D.keys ds)
  | .kt ds => .tup (D.keys ds)
  | .ref _ | .exn _ _ | .kl _ => .none
def D.keys : List D → List NestedKey
  | [] => []
  | d :: ds => d.key :: D.keys ds
end
mutual
/-- as data -/
def D.py : D → PyData
  | .non => .none
  | .bl b => .bool b
  | .int i => .int i
  | .str x => .str x
  | .tup ds => .tuple (D.pys ds)
  | .kt ds => .tuple (D.pys ds)
  | .ref _ | .exn _ _ | .kl _ => .none
def D.pys : List D → List PyData
  | [] => []
  | d :: ds => d.py :: D.pys ds
end
/-- a module's tuple as a tuple -/
def D.cn : D → D
  | .kt ds => .tup ds
  | d => d
def D.eqv (x y : D) : Bool := NestedKey.beq x.key y.key
/-- two values that == may be asked of: both pure, not too deep -/
def D.flat (x : D) : Bool := x.pure && decide (x.key.depth ≤ 8)
/-- a key of a dict: an int, a text, or a tuple of keys -/
def D.hk : D → Bool
  | .int _ => true
  | .str _ => true
  | .tup ds => D.pures ds && decide ((D.tup ds).key.depth ≤ 8)
  | _ => false
/-- a key that is an int or a text -/
def D.hk1 : D → Bool
  | .int _ => true
  | .str _ => true
  | _ => false
/-- a key that is a tuple of keys -/
def D.hkT : D → Bool
  | .tup ds => D.pures ds && decide ((D.tup ds).key.depth ≤ 8)
  | .kt ds => D.pures ds && decide ((D.kt ds).key.depth ≤ 8)
  | _ => false
def D.isT : D → Bool
  | .tup _ => true
  | _ => false
def dget (kvs : List (D × D)) (k : D) : Option D := (kvs.find? fun p => p.1.eqv k).map (·.2)
def dhas (kvs : List (D × D)) (k : D) : Bool := kvs.any fun p => p.1.eqv k
def dput (kvs : List (D × D)) (k v : D) : List (D × D) :=
  if dhas kvs k then kvs.map fun p => if p.1.eqv k then (p.1, v) else p else kvs ++ [(k, v)]
def ddel (kvs : List (D × D)) (k : D) : List (D × D) := kvs.filter fun p => !p.1.eqv k
/-- a dict, its pairs, whether the key is of its kind -/
def MO.dk : MO → D → Option (List (D × D))
  | .dct kvs, k => if k.hk1 = true then some kvs else none
  | .lck kvs, k => if k.hk1 = true then some kvs else none
  | .dcT kvs, k => if k.hkT = true then some kvs else none
  | .lkT kvs, k => if k.hkT = true then some kvs else none
  | _, _ => none
/-! sorted -/
def D.dep (x : D) : Nat := x.py.depth
/-- data that can be compared place by place -/
def SortOk (xs : List D) : Prop := (∀ d ∈ xs, d.pure = true ∧ d.py.depth ≤ 20) ∧ PySem.W.AllAlike (xs.map D.py) ∧ PySem.W.Sortable (xs.map D.py)
def srtD (xs : List D) : List D := xs.mergeSort fun a b => !PySem.W.dataLt b.py a.py
/-- pairs whose keys can be compared, no two the same -/
def PairsOk (kvs : List (D × D)) : Prop := (∀ p ∈ kvs, p.1.pure = true ∧ p.1.py.depth ≤ 20 ∧ p.1 ≠ .non ∧ p.2.pure = true ∧ p.2.py.depth ≤ 20 ∧ PySem.W.alike p.2.py p.2.py = true) ∧ (∀ p ∈ kvs, ∀ q ∈ kvs, PySem.W.alike p.1.py q.1.py = true) ∧ kvs.Pairwise fun p q => PyData.eqv p.1.py q.1.py = false ∧ PyData.eqv q.1.py p.1.py = false
def srtP (kvs : List (D × D)) : List (D × D) := kvs.mergeSort fun p q => !PySem.W.dataLt q.1.py p.1.py
def pairD (p : D × D) : D := .tup [p.1, p.2]

/-! what a value reads as data through the heap -/
mutual
inductive Deep (M : Mp) : D → PyData → Prop where
  | non : Deep M .non .none
  | bl (b : Bool) : Deep M (.bl b) (.bool b)
  | int (i : Int) : Deep M (.int i) (.int i)
  | str (x : Str) : Deep M (.str x) (.str x)
  | tup {ds : List D} {ps : List PyData} : Deeps M ds ps → Deep M (.tup ds) (.tuple ps)
  | kt {ds : List D} {ps : List PyData} : Deeps M ds ps → Deep M (.kt ds) (.tuple ps)
  | lst {a : Addr} {ds : List D} {ps : List PyData} : M a = some (.lst ds) → Deeps M ds ps → Deep M (.ref a) (.list ps)
  | dct {a : Addr} {kvs : List (D × D)} {ps : List (PyData × PyData)} : M a = some (.dct kvs) → Deeps M (kvs.map (·.1)) (ps.map (·.1)) → Deeps M (kvs.map (·.2)) (ps.map (·.2)) → Deep M (.ref a) (.dict ps)
inductive Deeps (M : Mp) : List D → List PyData → Prop where
  | nil : Deeps M [] []
  | cons {d : D} {ds : List D} {p : PyData} {ps : List PyData} : Deep M d p → Deeps M ds ps → Deeps M (d :: ds) (p :: ps)
end

/-! the language -/
inductive BOp where
  | add | sub | mul | fdiv | mod | pow | shl | shr
inductive UOp where
  | neg
inductive COp where
  | eq | ne | lt | le | gt | ge | isIn | notIn | is | isNot
/-- built-in functions and types, called -/
inductive Blt where
  | len | int | str | repr | max | min | abs | sum | list | tuple | sorted | range
/-- a built-in type, for isinstance -/
inductive Ty where
  | int | bool | str | list | tuple
/-- methods of built-in types -/
inductive Mth where
  | append | extend | pop | index | get | items | values | clear | remove | insert | join | split | keys
/-- what is walked -/
inductive ItK where
  | plain | range | enumerate | reversed | items | values | zip

inductive Tg where
  | one (i : Nat)
  | many (l : List Nat)

def Tg.sl : Tg → List Nat
  | .one i => [i]
  | .many l => l
/-- which sequence is made of what is walked -/
inductive SeqF where
  | list | tuple | sorted | sum | dict

mutual
inductive E where
  | var (i : Nat)
  | int (i : Int)
  | str (x : Str)
  | bl (b : Bool)
  | non
  | con (d : D)
  | bin (o : BOp) (a b : E)
  | un (o : UOp) (a : E)
  | cmp (o : COp) (a b : E)
  | cmp2 (o o' : COp) (a b c : E)
  | and (a b : E)
  | or (a b : E)
  | not (a : E)
  | ite (c : T) (a b : E)
  | tup (es : Es)
  | lst (es : Es)
  | dct (es : Es)
  | call (f : Nat) (es : Es)
  | blt (f : Blt) (es : Es)
  | seq (f : SeqF) (k : ItK) (es : Es)
  | inst (a : E) (t : Ty)
  | mth (o : E) (m : Mth) (es : Es)
  | umth (o : E) (m : Str) (c f : Nat) (es : Es)
  | make (c f : Nat) (es : Es)
  | ix (a b : E)
  | sl (a : E) (lo hi : E)
  | fld (a : E) (f : Str)
  | comp (own : List Nat) (elt : E) (t : Tg) (k : ItK) (es : Es) (c : T)
  | dcomp (own : List Nat) (kx vx : E) (t : Tg) (k : ItK) (es : Es) (c : T)
  | gen (all : Bool) (own : List Nat) (elt : E) (t : Tg) (k : ItK) (es : Es)
  | disp (tbl : Nat) (key : E) (es : Es)
  | cidx (ds : List D) (es : Es)
  | bad
inductive Es where
  | nil
  | cons (e : E) (es : Es)
inductive T where
  | tt
  | val (e : E)
  | and (a b : T)
  | or (a b : T)
  | not (a : T)
end

mutual
inductive S where
  | expr (e : E)
  | ret (e : E)
  | retN
  | set (t : Tg) (e : E)
  | setIx (a b e : E)
  | setFld (a : E) (f : Str) (e : E)
  | aug (i : Nat) (o : BOp) (e : E)
  | augFld (a : E) (f : Str) (o : BOp) (e : E)
  | delIx (a b : E)
  | ite (c : T) (a b : Ss)
  | wh (c : T) (b : Ss)
  | for (t : Tg) (k : ItK) (es : Es) (b : Ss)
  | brk
  | cnt
  | pass
  | raise (c : Nat) (es : Es)
  | tryE (b : Ss) (c : Nat) (i : Option Nat) (h : Ss)
  | bad
inductive Ss where
  | nil
  | cons (s : S) (ss : Ss)
end

/-! ### what a program is -/
structure Pr where
  sp : Nat → Spec
  /-- what a class's instances may have as fields -/
  fl : Nat → Str → Bool
  /-- the def that a table gives for a text -/
  tab : Nat → Str → Option Nat
  /-- an exception class's fields -/
  exf : Nat → List Str
  /-- whether a clause of the second class takes an exception of the first one -/
  sub : Nat → Nat → Bool

/-! ### values -/
def truthy : D → Mp → (Bool → Prop) → Prop
  | .non, _, k => k false
  | .bl b, _, k => k b
  | .int i, _, k => k (i != 0)
  | .str x, _, k => x.length ≤ sizeLine ∧ k (x.length != 0)
  | .tup ds, _, k => k (!ds.isEmpty)
  | .ref a, M, k => match M a with
    | some (.lst ds) => k (!ds.isEmpty)
    | some (.dct kvs) => k (!kvs.isEmpty)
    | some (.dcT kvs) => k (!kvs.isEmpty)
    | _ => False
  | .exn _ _, _, _ => False
  | .kl _, _, _ => False
  | .kt _, _, _ => False

/-- a factor below 2 ^ 64 -/
def MulOk (i j : Int) : Prop := (-(2 ^ 64) < i ∧ i < 2 ^ 64) ∨ (-(2 ^ 64) < j ∧ j < 2 ^ 64)
def wpNew (M : Mp) (o : MO) (Q : Post) : Prop := ∀ p, M p = none → Q (.ref p) (mset M p o)
def wpBin : BOp → D → D → Mp → Post → Prop
  | .add, .int i, .int j, M, Q => Q (.int (i + j)) M
  | .add, .str x, .str y, M, Q => x.length + y.length ≤ sizeLine ∧ Q (.str (x ++ y)) M
  | .add, .tup xs, .tup ys, M, Q => xs.length + ys.length ≤ sizeLine ∧ Q (.tup (xs ++ ys)) M
  | .add, .ref a, .ref b, M, Q => match M a, M b with
    | some (.lst xs), some (.lst ys) => xs.length + ys.length ≤ sizeLine ∧ wpNew M (.lst (xs ++ ys)) Q
    | _, _ => False
  | .sub, .int i, .int j, M, Q => Q (.int (i - j)) M
  | .mul, .int i, .int j, M, Q => MulOk i j ∧ Q (.int (i * j)) M
  | .mul, .str x, .int n, M, Q => PySem.MulOk x n ∧ Q (.str (Txt.mul x n)) M
  | .fdiv, .int i, .int j, M, Q => (0 < j ∧ j < 1073741824) ∧ Q (.int (i / j)) M
  | .mod, .int i, .int j, M, Q => 0 < j ∧ Q (.int (i % j)) M
  | .pow, .int i, .int j, M, Q => (0 ≤ j ∧ j ≤ 1000000 ∧ i.natAbs < 2 ^ 64) ∧ Q (.int (i ^ j.toNat)) M
  | .shl, .int i, .int j, M, Q => (0 ≤ j ∧ j ≤ 1000000 ∧ i.natAbs < 2 ^ 64) ∧ Q (.int (i * 2 ^ j.toNat)) M
  | .shr, .int i, .int j, M, Q => 0 ≤ j ∧ Q (.int (i / 2 ^ j.toNat)) M
  | _, _, _, _, _ => False
/-- x op= y: of no list, which would be changed in place -/
def wpInp (o : BOp) (x y : D) (M : Mp) (Q : Post) : Prop := match o, x, y with
  | .add, .int i, .int j => wpBin .add (.int i) (.int j) M Q
  | .add, .str i, .str j => wpBin .add (.str i) (.str j) M Q
  | .sub, .int i, .int j => wpBin .sub (.int i) (.int j) M Q
  | .mul, .int i, .int j => wpBin .mul (.int i) (.int j) M Q
  | .fdiv, .int i, .int j => wpBin .fdiv (.int i) (.int j) M Q
  | _, _, _ => False
def wpUn : UOp → D → Mp → Post → Prop
  | .neg, .int i, M, Q => Q (.int (-i)) M
  | _, _, _, _ => False
def wpEq (x y : D) (M : Mp) (k : Bool → Prop) : Prop := match x, y with
  | .ref a, .ref b => ∃ p q, Deep M (.ref a) p ∧ Deep M (.ref b) q ∧ SeqAt.shaped p = true ∧ SeqAt.shaped q = true ∧ k (PyData.eqv p q)
  | x, y => (x.flat = true ∧ y.flat = true) ∧ k (x.eqv y)
def wpIn (x y : D) (M : Mp) (k : Bool → Prop) : Prop := match y with
  | .tup ds => (x.flat = true ∧ (∀ d ∈ ds, d.flat = true)) ∧ k (ds.any fun z => z.eqv x)
  | .kt ds => (x.flat = true ∧ (∀ d ∈ ds, d.flat = true)) ∧ k (ds.any fun z => z.eqv x)
  | .str y => match x with
    | .str x => x.length = 1 ∧ k (decide (x.cps.getD 0 0 ∈ y.cps.toList))
    | _ => False
  | .ref a => match M a with
    | some (.lst ds) => (x.flat = true ∧ (∀ d ∈ ds, d.flat = true)) ∧ k (ds.any fun z => z.eqv x)
    | some (.dct kvs) => x.hk1 = true ∧ k (dhas kvs x)
    | some (.lck kvs) => x.hk1 = true ∧ k (dhas kvs x)
    | some (.dcT kvs) => x.hkT = true ∧ k (dhas kvs x)
    | some (.lkT kvs) => x.hkT = true ∧ k (dhas kvs x)
    | _ => False
  | _ => False
def D.isNon : D → Bool
  | .non => true
  | _ => false
def wpCmp (o : COp) (x y : D) (M : Mp) (k : Bool → Prop) : Prop := match o with
  | .eq => wpEq x y M k
  | .ne => wpEq x y M fun b => k (!b)
  | .isIn => wpIn x y M k
  | .notIn => wpIn x y M fun b => k (!b)
  | .lt => match x, y with
    | .int i, .int j => k (decide (i < j))
    | _, _ => False
  | .le => match x, y with
    | .int i, .int j => k (decide (i ≤ j))
    | _, _ => False
  | .gt => match x, y with
    | .int i, .int j => k (decide (j < i))
    | _, _ => False
  | .ge => match x, y with
    | .int i, .int j => k (decide (j ≤ i))
    | _, _ => False
  | .is => match x, y with
    | .bl a, .bl b => k (a == b)
    | x, .non => k x.isNon
    | _, _ => False
  | .isNot => match x, y with
    | .bl a, .bl b => k (!(a == b))
    | x, .non => k (!x.isNon)
    | _, _ => False
/-- an item by its place, from the end where it is below nought -/
def atD (ds : List D) (i : Int) : Option D := if 0 ≤ i then ds[i.toNat]? else if 0 ≤ i + ds.length then ds[(i + ds.length).toNat]? else none
def wpIx (x y : D) (M : Mp) (Q : Post) : Prop := match x with
  | .kl ds => match y with
    | .int i => ∃ d, atD ds i = some d ∧ Q d M
    | _ => False
  | .kt ds => match y with
    | .int i => ∃ d, atD ds i = some d ∧ Q d M
    | _ => False
  | .tup ds => match y with
    | .int i => ∃ d, atD ds i = some d ∧ Q d M
    | _ => False
  | .str z => match y with
    | .int i => ∃ c, z.length ≤ sizeLine ∧ atD (z.cps.toList.map fun c => .str ⟨#[c]⟩) i = some c ∧ Q c M
    | _ => False
  | .ref a => match M a with
    | some (.lst ds) => (match y with
      | .int i => ∃ d, atD ds i = some d ∧ Q d M
      | _ => False)
    | some (.dct kvs) => y.hk1 = true ∧ ∃ d, dget kvs y = some d ∧ Q d M
    | some (.lck kvs) => y.hk1 = true ∧ ∃ d, dget kvs y = some d ∧ Q d M
    | some (.dcT kvs) => y.hkT = true ∧ ∃ d, dget kvs y = some d ∧ Q d M
    | some (.lkT kvs) => y.hkT = true ∧ ∃ d, dget kvs y = some d ∧ Q d M
    | _ => False
  | _ => False
/-- a slice's end in a sequence of n items -/
def sEnd (n : Nat) (i : Int) : Nat := if 0 ≤ i then min i.toNat n else (i + n).toNat
def sLo (n : Nat) : D → Nat
  | .int i => sEnd n i
  | _ => 0
def sHi (n : Nat) : D → Nat
  | .int i => sEnd n i
  | _ => n
def D.ion : D → Bool
  | .int _ => true
  | .non => true
  | _ => false
def cut {α : Type} (ds : List α) (lo hi : D) : List α := (ds.drop (sLo ds.length lo)).take (sHi ds.length hi - sLo ds.length lo)
def wpSl (x lo hi : D) (M : Mp) (Q : Post) : Prop := (lo.ion = true ∧ hi.ion = true) ∧ match x with
  | .tup ds => Q (.tup (cut ds lo hi)) M
  | .str z => z.length ≤ sizeLine ∧ Q (.str ⟨(cut z.cps.toList lo hi).toArray⟩) M
  | .ref a => match M a with
    | some (.lst ds) => wpNew M (.lst (cut ds lo hi)) Q
    | _ => False
  | _ => False
def posOf (f : Str) : List Str → List D → Option D
  | g :: gs, d :: ds => if g = f then some d else posOf f gs ds
  | _, _ => none
def wpFld (P : Pr) (x : D) (f : Str) (M : Mp) (Q : Post) : Prop := match x with
  | .ref a => match M a with
    | some (.ins c fs) => P.fl c f = true ∧ ∃ v, fs.lookup f = some v ∧ Q v M
    | _ => False
  | .exn c ds => ∃ v, posOf f (P.exf c) ds = some v ∧ Q v M
  | _ => False

/-! ### what is walked: the items, what must stay, the heap of the walk, what is undone behind it -/
def dRange (lo hi : Int) : List D := (List.range (hi - lo).toNat).map fun (k : Nat) => .int (lo + (k : Int))
def small62 (i : Int) : Prop := -(2 ^ 62) ≤ i ∧ i < 2 ^ 62
abbrev ItR := List D → (Mp → Prop) → Mp → (Mp → Mp) → Prop
/-- a walked dict is free again -/
def MO.unl : MO → Option MO
  | .lck kvs => some (.dct kvs)
  | .lkT kvs => some (.dcT kvs)
  | _ => none
def unlk (a : Addr) (M : Mp) : Mp := match (M a).bind MO.unl with
  | some o => mset M a o
  | none => M
def wpItD (f : List (D × D) → List D) (a : Addr) (kvs : List (D × D)) (M : Mp) (R : ItR) : Prop :=
  R (f kvs) (fun M' => M' a = some (.lck kvs)) (mset M a (.lck kvs)) (unlk a)
def wpItT (f : List (D × D) → List D) (a : Addr) (kvs : List (D × D)) (M : Mp) (R : ItR) : Prop :=
  R (f kvs) (fun M' => M' a = some (.lkT kvs)) (mset M a (.lkT kvs)) (unlk a)
def enumD (ds : List D) : List D := ds.zipIdx.map fun p => .tup [.int p.2, p.1]
def wpIt (k : ItK) (ds : List D) (M : Mp) (R : ItR) : Prop := match k, ds with
  | .plain, [.tup xs] => R xs (fun _ => True) M id
  | .plain, [.kl xs] => R xs (fun _ => True) M id
  | .plain, [.kt xs] => R xs (fun _ => True) M id
  | .plain, [.str z] => z.length ≤ sizeLine ∧ R (z.cps.toList.map fun c => .str ⟨#[c]⟩) (fun _ => True) M id
  | .plain, [.ref a] => (match M a with
    | some (.lst xs) => R xs (fun M' => M' a = some (.lst xs)) M id
    | some (.dct kvs) => wpItD (·.map (·.1)) a kvs M R
    | some (.dcT kvs) => wpItT (·.map (·.1)) a kvs M R
    | _ => False)
  | .range, [.int n] => small62 n ∧ R (dRange 0 n) (fun _ => True) M id
  | .range, [.int i, .int j] => (small62 i ∧ small62 j) ∧ R (dRange i j) (fun _ => True) M id
  | .enumerate, [.ref a] => (match M a with
    | some (.lst xs) => R (enumD xs) (fun M' => M' a = some (.lst xs)) M id
    | _ => False)
  | .reversed, [.ref a] => (match M a with
    | some (.lst xs) => R xs.reverse (fun M' => M' a = some (.lst xs)) M id
    | _ => False)
  | .items, [.ref a] => (match M a with
    | some (.dct kvs) => wpItD (·.map fun p => .tup [p.1, p.2]) a kvs M R
    | some (.dcT kvs) => wpItT (·.map fun p => .tup [p.1, p.2]) a kvs M R
    | _ => False)
  | .values, [.ref a] => (match M a with
    | some (.dct kvs) => wpItD (·.map (·.2)) a kvs M R
    | some (.dcT kvs) => wpItT (·.map (·.2)) a kvs M R
    | _ => False)
  | .zip, [.ref a, .ref b] => (match M a, M b with
    | some (.lst xs), some (.lst ys) => R ((xs.zip ys).map fun p => .tup [p.1, p.2]) (fun M' => M' a = some (.lst xs) ∧ M' b = some (.lst ys)) M id
    | _, _ => False)
  | _, _ => False

/-! ### targets -/
def setMany : List Nat → List D → Lo → Option Lo
  | [], [], σ => some σ
  | i :: is, d :: ds, σ => setMany is ds (σ.set i (some d))
  | _, _, _ => none
def wpTg (t : Tg) (d : D) (σ : Lo) (M : Mp) (k : Lo → Prop) : Prop := match t with
  | .one i => k (σ.set i (some d))
  | .many l => match d with
    | .tup ds => ∃ σ', setMany l ds σ = some σ' ∧ k σ'
    | .ref a => (match M a with
      | some (.lst ds) => ∃ σ', setMany l ds σ = some σ' ∧ k σ'
      | _ => False)
    | _ => False
def wipeL : List Nat → Lo → Lo
  | [], σ => σ
  | i :: is, σ => wipeL is (σ.set i none)

/-! ### built-ins -/
def allS : List D → Option (List Str)
  | [] => some []
  | .str x :: r => (allS r).map (x :: ·)
  | _ => none
def allI : List D → Option (List Int)
  | [] => some []
  | .int x :: r => (allI r).map (x :: ·)
  | _ => none
/-- the type of a value that is told -/
def tyName (d : D) (M : Mp) : Option String := match d with
  | .non => some "NoneType"
  | .bl _ => some "bool"
  | .int _ => some "int"
  | .str _ => some "str"
  | .tup _ => some "tuple"
  | .kt _ => some "tuple"
  | .kl _ => some "list"
  | .ref a => (match M a with
    | some (.lst _) => some "list"
    | some (.dct _) => some "dict"
    | _ => none)
  | .exn _ _ => none
def isTyN (n : String) : Ty → Bool
  | .int => n == "int" || n == "bool"
  | .bool => n == "bool"
  | .str => n == "str"
  | .list => n == "list"
  | .tuple => n == "tuple"
def wpBlt (f : Blt) (ds : List D) (M : Mp) (Q : Post) : Prop := match f, ds with
  | .len, [.tup xs] => Q (.int xs.length) M
  | .len, [.kl xs] => Q (.int xs.length) M
  | .len, [.kt xs] => Q (.int xs.length) M
  | .len, [.str x] => x.length ≤ sizeLine ∧ Q (.int x.length) M
  | .len, [.ref a] => (match M a with
    | some (.lst xs) => Q (.int xs.length) M
    | some (.dct kvs) => Q (.int kvs.length) M
    | some (.dcT kvs) => Q (.int kvs.length) M
    | _ => False)
  | .int, [.int i] => Q (.int i) M
  | .int, [.bl b] => Q (.int (if b = true then 1 else 0)) M
  | .repr, [d] => ∃ p, Deep M d p ∧ p.showable = true ∧ p.shown.length ≤ sizeLine ∧ p.depth ≤ 40 ∧ Q (.str p.shown) M
  | .max, [.int i, .int j] => Q (.int (if j > i then j else i)) M
  | .min, [.int i, .int j] => Q (.int (if j < i then j else i)) M
  | .abs, [.int i] => Q (.int (if i < 0 then -i else i)) M
  | .str, [.int i] => i.natAbs.log2 < 1920 ∧ Q (.str (toString i)) M
  | .list, [.tup xs] => wpNew M (.lst xs) Q
  | .list, [.kt xs] => wpNew M (.lst xs) Q
  | .list, [.ref a] => (match M a with
    | some (.lst xs) => wpNew M (.lst xs) Q
    | some (.dct kvs) => wpNew M (.lst (kvs.map (·.1))) Q
    | some (.dcT kvs) => wpNew M (.lst (kvs.map (·.1))) Q
    | _ => False)
  | .sorted, [.ref a] => (match M a with
    | some (.lst xs) => SortOk xs ∧ wpNew M (.lst (srtD xs)) Q
    | some (.dcT kvs) => SortOk (kvs.map (·.1)) ∧ wpNew M (.lst (srtD (kvs.map (·.1)))) Q
    | _ => False)
  | .sum, [.ref a] => (match M a with
    | some (.lst xs) => ∃ ns : List Int, xs = ns.map .int ∧ Q (.int ns.sum) M
    | _ => False)
  | .tuple, [.tup xs] => Q (.tup xs) M
  | .tuple, [.kt xs] => Q (.kt xs) M
  | .tuple, [.ref a] => (match M a with
    | some (.lst xs) => Q (.tup xs) M
    | _ => False)
  | _, _ => False
/-- a built-in over what is walked -/
def wpSeq (f : SeqF) (k : ItK) (ds : List D) (M : Mp) (Q : Post) : Prop := match f, k, ds with
  | .list, .items, [.ref a] => (match M a with
    | some (.dct kvs) => wpNew M (.lst (kvs.map pairD)) Q
    | some (.dcT kvs) => wpNew M (.lst (kvs.map pairD)) Q
    | _ => False)
  | .sorted, .items, [.ref a] => (match M a with
    | some (.dct kvs) => PairsOk kvs ∧ wpNew M (.lst ((srtP kvs).map pairD)) Q
    | some (.dcT kvs) => PairsOk kvs ∧ wpNew M (.lst ((srtP kvs).map pairD)) Q
    | _ => False)
  | .list, .range, [.int n] => small62 n ∧ wpNew M (.lst (dRange 0 n)) Q
  | .list, .range, [.int i, .int j] => (small62 i ∧ small62 j) ∧ wpNew M (.lst (dRange i j)) Q
  | _, _, _ => False
def wpExt (ds : List D) (a : Addr) (y : D) (M : Mp) (Q : Post) : Prop := match y with
  | .ref b => (match M b with
    | some (.lst ys) => ds.length + ys.length ≤ sizeLine ∧ Q .non (mset M a (.lst (ds ++ ys)))
    | _ => False)
  | _ => False
inductive RK where
  | lst | dct | str | tup
/-- what a receiver is when the arguments have not come -/
def rcv (x : D) (M : Mp) : Option RK := match x with
  | .str _ => some .str
  | .kt _ => some .tup
  | .ref a => (match M a with
    | some (.lst _) => some .lst
    | some (.dct _) => some .dct
    | some (.lck _) => some .dct
    | some (.dcT _) => some .dct
    | some (.lkT _) => some .dct
    | _ => none)
  | _ => none
/-- which methods are told -/
def mok : Option RK → Mth → Bool
  | some .lst, .append => true
  | some .lst, .extend => true
  | some .lst, .pop => true
  | some .dct, .get => true
  | some .dct, .pop => true
  | some .str, .index => true
  | _, _ => false
/-- d.get, d.pop -/
def wpDm (m : Mth) (a : Addr) (o : MO) (args : List D) (M : Mp) (Q : Post) : Prop := match m, args with
  | .get, [k] => ∃ kvs, o.dk k = some kvs ∧ Q ((dget kvs k).getD .non) M
  | .get, [k, x] => ∃ kvs, o.dk k = some kvs ∧ Q ((dget kvs k).getD x) M
  | .pop, [k] => (match o with
    | .dct kvs => k.hk1 = true ∧ ∃ d, dget kvs k = some d ∧ Q d (mset M a (.dct (ddel kvs k)))
    | .dcT kvs => k.hkT = true ∧ ∃ d, dget kvs k = some d ∧ Q d (mset M a (.dcT (ddel kvs k)))
    | _ => False)
  | .pop, [k, x] => (match o with
    | .dct kvs => k.hk1 = true ∧ (match dget kvs k with
      | some d => Q d (mset M a (.dct (ddel kvs k)))
      | none => Q x M)
    | .dcT kvs => k.hkT = true ∧ (match dget kvs k with
      | some d => Q d (mset M a (.dcT (ddel kvs k)))
      | none => Q x M)
    | _ => False)
  | _, _ => False
def wpMth (m : Mth) (o : D) (args : List D) (M : Mp) (Q : Post) : Prop := match o with
  | .ref a => (match M a with
    | some (.lst ds) => (match m, args with
      | .append, [d] => ds.length < sizeLine ∧ Q .non (mset M a (.lst (ds ++ [d])))
      | .extend, [y] => wpExt ds a y M Q
      | .pop, [] => ∃ ys d, ds = ys ++ [d] ∧ Q d (mset M a (.lst ys))
      | .pop, [.int i] => ∃ d, 0 ≤ i ∧ ds[i.toNat]? = some d ∧ Q d (mset M a (.lst (ds.eraseIdx i.toNat)))
      | .index, [d] => (d.flat = true ∧ ∀ z ∈ ds, z.flat = true) ∧ ∃ i, (ds.findIdx? fun z => z.eqv d) = some i ∧ Q (.int i) M
      | _, _ => False)
    | some (.dct kvs) => wpDm m a (.dct kvs) args M Q
    | some (.lck kvs) => wpDm m a (.lck kvs) args M Q
    | some (.dcT kvs) => wpDm m a (.dcT kvs) args M Q
    | some (.lkT kvs) => wpDm m a (.lkT kvs) args M Q
    | _ => False)
  | .str x => (match m, args with
    | .join, [.ref a] => (match M a with
      | some (.lst ds) => ∃ ys, allS ds = some ys ∧ (ys.map (·.length)).sum + ys.length * x.length ≤ 16777216 ∧ Q (.str (Txt.join x ys)) M
      | _ => False)
    | .index, [.str y] => ∃ (i : Nat) (r : List Nat), Builtin.Str.occurrences x y 0 x.length 1 = i :: r ∧ Q (.int i) M
    | .split, [.str y] => (y.length ≠ 0 ∧ x.length + 2 ≤ sizeLine) ∧ wpNew M (.lst ((Txt.split x y).map .str)) Q
    | _, _ => False)
  | .kt ds => (match m, args with
    | .index, [d] => ∃ (ys : List Str) (z : Str) (j : Nat), ds = ys.map .str ∧ d = .str z ∧ ys[j]? = some z ∧ (∀ m, m < j → ys[m]? ≠ some z) ∧ Q (.int j) M
    | _, _ => False)
  | _ => False
/-- o[i] = v -/
def wpSetIx (o i v : D) (M : Mp) (k : Mp → Prop) : Prop := match o with
  | .ref a => (match M a with
    | some (.lst ds) => (match i with
      | .int i => (0 ≤ i ∧ i < ds.length) ∧ k (mset M a (.lst (ds.set i.toNat v)))
      | _ => False)
    | some (.dct kvs) => (i.hk1 = true ∧ kvs.length < sizeLine) ∧ k (mset M a (.dct (dput kvs i v)))
    | some (.dcT kvs) => (i.hkT = true ∧ kvs.length < sizeLine) ∧ k (mset M a (.dcT (dput kvs i v)))
    | _ => False)
  | _ => False
def wpDel (o i : D) (M : Mp) (k : Mp → Prop) : Prop := match o with
  | .ref a => (match M a with
    | some (.dct kvs) => (i.hk1 = true ∧ dhas kvs i = true) ∧ k (mset M a (.dct (ddel kvs i)))
    | some (.dcT kvs) => (i.hkT = true ∧ dhas kvs i = true) ∧ k (mset M a (.dcT (ddel kvs i)))
    | _ => False)
  | _ => False
def putFd (f : Str) (v : D) : List (Str × D) → List (Str × D)
  | [] => [(f, v)]
  | (g, x) :: r => if g = f then (g, v) :: r else (g, x) :: putFd f v r
def wpSetFld (P : Pr) (o : D) (f : Str) (v : D) (M : Mp) (k : Mp → Prop) : Prop := match o with
  | .ref a => (match M a with
    | some (.ins c fs) => (P.fl c f = true ∧ fs.length < 900) ∧ k (mset M a (.ins c (putFd f v fs)))
    | _ => False)
  | _ => False
/-- a dict display's pairs, put in one behind the other -/
def pairsD : List D → Option (List (D × D))
  | [] => some []
  | k :: v :: r => (pairsD r).map ((k, v) :: ·)
  | _ => none
def wpDisp (ds : List D) (M : Mp) (Q : Post) : Prop := (ds = [] ∧ (wpNew M (.dct []) Q ∨ wpNew M (.dcT []) Q)) ∨ ∃ kvs, pairsD ds = some kvs ∧ kvs ≠ [] ∧ wpNew M (.dct kvs) Q

/-! ### loops -/
/-- a comprehension's items: body tells for each whether it comes in -/
def compL (body : D → Mp → (Option D → Mp → Prop) → Prop) (G : Mp → Prop) : List D → List D → Mp → (List D → Mp → Prop) → Prop
  | [], acc, M, Q => G M ∧ Q acc M
  | x :: xs, acc, M, Q => G M ∧ body x M fun r M1 => match r with
    | none => compL body G xs acc M1 Q
    | some d => acc.length < sizeLine ∧ compL body G xs (acc ++ [d]) M1 Q
/-- .. of a dict comprehension -/
def dcompL (body : D → Mp → (Option (D × D) → Mp → Prop) → Prop) (G : Mp → Prop) : List D → List (D × D) → Mp → (List (D × D) → Mp → Prop) → Prop
  | [], acc, M, Q => G M ∧ Q acc M
  | x :: xs, acc, M, Q => G M ∧ body x M fun r M1 => match r with
    | none => dcompL body G xs acc M1 Q
    | some p => (p.1.hk1 = true ∧ acc.length < sizeLine) ∧ dcompL body G xs (dput acc p.1 p.2) M1 Q
/-- any, all -/
def genL (all : Bool) (body : D → Mp → (Bool → Mp → Prop) → Prop) (G : Mp → Prop) : List D → Mp → (Bool → Mp → Prop) → Prop
  | [], M, Q => G M ∧ Q all M
  | x :: xs, M, Q => G M ∧ body x M fun b M1 => if b = all then genL all body G xs M1 Q else Q (!all) M1

structure Ends where
  nx : Lo → Mp → Prop
  rt : Post
  bk : Lo → Mp → Prop := fun _ _ => False
  ct : Lo → Mp → Prop := fun _ _ => False
def forL (t : Tg) (body : Ends → Lo → Mp → Prop) (G : Mp → Prop) (K : Ends) : List D → Lo → Mp → Prop
  | [], σ, M => G M ∧ K.nx σ M
  | x :: xs, σ, M => G M ∧ wpTg t x σ M fun σ1 => body ⟨forL t body G K xs, K.rt, K.nx, forL t body G K xs⟩ σ1 M
def whL (c : Lo → Mp → (Bool → Mp → Prop) → Prop) (body : Ends → Lo → Mp → Prop) (D : Ends) : Nat → Lo → Mp → Prop
  | 0, _, _ => False
  | n + 1, σ, M => c σ M fun b M1 => if b = true then body ⟨whL c body D n, D.rt, D.nx, whL c body D n⟩ σ M1 else D.nx σ M1

/-! ### weakest preconditions; X: what is wanted of an exception -/
abbrev Xp := D → Mp → Prop
mutual
def wpE (P : Pr) (X : Xp) : E → Lo → Mp → Post → Prop
  | .var i, σ, M, Q => ∃ d, σ[i]? = some (some d) ∧ Q d M
  | .int i, _, M, Q => Q (.int i) M
  | .str x, _, M, Q => Q (.str x) M
  | .bl b, _, M, Q => Q (.bl b) M
  | .non, _, M, Q => Q .non M
  | .con d, _, M, Q => Q d.cn M
  | .bin o a b, σ, M, Q => wpE P X a σ M fun x M1 => wpE P X b σ M1 fun y M2 => wpBin o x y M2 Q
  | .un o a, σ, M, Q => wpE P X a σ M fun x M1 => wpUn o x M1 Q
  | .cmp o a b, σ, M, Q => wpE P X a σ M fun x M1 => wpE P X b σ M1 fun y M2 => wpCmp o x y M2 fun r => Q (.bl r) M2
  | .cmp2 o o' a b c, σ, M, Q => wpE P X a σ M fun x M1 => wpE P X b σ M1 fun y M2 => wpCmp o x y M2 fun r =>
      if r = true then wpE P X c σ M2 fun z M3 => wpCmp o' y z M3 fun r' => Q (.bl r') M3 else Q (.bl false) M2
  | .and a b, σ, M, Q => wpE P X a σ M fun x M1 => truthy x M1 fun r => if r = true then wpE P X b σ M1 Q else Q x M1
  | .or a b, σ, M, Q => wpE P X a σ M fun x M1 => truthy x M1 fun r => if r = true then Q x M1 else wpE P X b σ M1 Q
  | .not a, σ, M, Q => wpE P X a σ M fun x M1 => truthy x M1 fun r => Q (.bl (!r)) M1
  | .ite c a b, σ, M, Q => wpT P X c σ M fun r M1 => if r = true then wpE P X a σ M1 Q else wpE P X b σ M1 Q
  | .tup es, σ, M, Q => wpEs P X es σ M fun ds M1 => ds.length ≤ sizeLine ∧ Q (.tup ds) M1
  | .lst es, σ, M, Q => wpEs P X es σ M fun ds M1 => ds.length ≤ sizeLine ∧ wpNew M1 (.lst ds) Q
  | .dct es, σ, M, Q => wpEs P X es σ M fun ds M1 => wpDisp ds M1 Q
  | .call f es, σ, M, Q => wpEs P X es σ M fun ds M1 => P.sp f ds M1 Q X
  | .blt f es, σ, M, Q => wpEs P X es σ M fun ds M1 => wpBlt f ds M1 Q
  | .seq f k es, σ, M, Q => wpEs P X es σ M fun ds M1 => wpSeq f k ds M1 Q
  | .inst a t, σ, M, Q => wpE P X a σ M fun x M1 => ∃ n, tyName x M1 = some n ∧ Q (.bl (isTyN n t)) M1
  | .mth o m es, σ, M, Q => wpE P X o σ M fun x M1 => mok (rcv x M1) m = true ∧ wpEs P X es σ M1 fun ds M2 => rcv x M2 = rcv x M1 ∧ wpMth m x ds M2 Q
  | .umth o m c f es, σ, M, Q => wpE P X o σ M fun x M1 => (∃ a fs, x = .ref a ∧ M1 a = some (.ins c fs) ∧ fs.lookup m = none) ∧ wpEs P X es σ M1 fun ds M2 => P.sp f (x :: ds) M2 Q X
  | .make c f es, σ, M, Q => wpEs P X es σ M fun ds M1 => ∀ p, M1 p = none → P.sp f (.ref p :: ds) (mset M1 p (.ins c [])) (fun d M2 => d = .non ∧ Q (.ref p) M2) X
  | .ix a b, σ, M, Q => wpE P X a σ M fun x M1 => wpE P X b σ M1 fun y M2 => wpIx x y M2 Q
  | .sl a lo hi, σ, M, Q => wpE P X a σ M fun x M1 => wpE P X lo σ M1 fun l M2 => wpE P X hi σ M2 fun h M3 => wpSl x l h M3 Q
  | .fld a f, σ, M, Q => wpE P X a σ M fun x M1 => wpFld P x f M1 Q
  | .comp own elt t k es c, σ, M, Q => wpEs P X es σ M fun ds M1 => wpIt k ds M1 fun xs G M2 fin =>
      compL (fun x M kk => wpTg t x (wipeL own σ) M fun σ1 => wpT P (fun _ _ => False) c σ1 M fun r M3 => if r = true then wpE P (fun _ _ => False) elt σ1 M3 fun d M4 => kk (some d) M4 else kk none M3) G xs [] M2
        fun acc M5 => wpNew (fin M5) (.lst acc) Q
  | .dcomp own kx vx t k es c, σ, M, Q => wpEs P X es σ M fun ds M1 => wpIt k ds M1 fun xs G M2 fin =>
      dcompL (fun x M kk => wpTg t x (wipeL own σ) M fun σ1 => wpT P (fun _ _ => False) c σ1 M fun r M3 => if r = true then wpE P (fun _ _ => False) kx σ1 M3 fun d M4 => wpE P (fun _ _ => False) vx σ1 M4 fun d' M5 => kk (some (d, d')) M5 else kk none M3) G xs [] M2
        fun acc M5 => wpNew (fin M5) (.dct acc) Q
  | .gen all own elt t k es, σ, M, Q => wpEs P X es σ M fun ds M1 => wpIt k ds M1 fun xs G M2 fin =>
      genL all (fun x M kk => wpTg t x (wipeL own σ) M fun σ1 => wpE P (fun _ _ => False) elt σ1 M fun d M4 => truthy d M4 fun b => kk b M4) G xs M2 fun b M5 => Q (.bl b) (fin M5)
  | .disp tbl key es, σ, M, Q => wpE P X key σ M fun x M1 => match x with
    | .str z => ∃ f, P.tab tbl z = some f ∧ wpEs P X es σ M1 fun ds M2 => P.sp f ds M2 Q X
    | _ => False
  | .cidx ds es, σ, M, Q => wpEs P X es σ M fun args M1 => ∃ (ys : List Str) (z : Str) (j : Nat), args = [.str z] ∧ ds = ys.map .str ∧ ys[j]? = some z ∧ (∀ m, m < j → ys[m]? ≠ some z) ∧ Q (.int j) M1
  | .bad, _, _, _ => False
def wpEs (P : Pr) (X : Xp) : Es → Lo → Mp → (List D → Mp → Prop) → Prop
  | .nil, _, M, Q => Q [] M
  | .cons e es, σ, M, Q => wpE P X e σ M fun d M1 => wpEs P X es σ M1 fun ds M2 => Q (d :: ds) M2
def wpT (P : Pr) (X : Xp) : T → Lo → Mp → (Bool → Mp → Prop) → Prop
  | .tt, _, M, k => k true M
  | .val e, σ, M, k => wpE P X e σ M fun x M1 => truthy x M1 fun r => k r M1
  | .and a b, σ, M, k => wpT P X a σ M fun r M1 => if r = true then wpT P X b σ M1 k else k false M1
  | .or a b, σ, M, k => wpT P X a σ M fun r M1 => if r = true then k true M1 else wpT P X b σ M1 k
  | .not a, σ, M, k => wpT P X a σ M fun r M1 => k (!r) M1
end
mutual
def wpS (P : Pr) : S → (D → Lo → Mp → Prop) → Ends → Lo → Mp → Prop
  | .expr e, X, D, σ, M => wpE P (fun x M => X x σ M) e σ M fun _ M1 => D.nx σ M1
  | .retN, _, D, _, M => D.rt .non M
  | .ret e, X, D, σ, M => wpE P (fun x M => X x σ M) e σ M D.rt
  | .set t e, X, D, σ, M => wpE P (fun x M => X x σ M) e σ M fun d M1 => wpTg t d σ M1 fun σ1 => D.nx σ1 M1
  | .setIx a b e, X, D, σ, M => wpE P (fun x M => X x σ M) e σ M fun v M1 => wpE P (fun x M => X x σ M) a σ M1 fun o M2 => wpE P (fun x M => X x σ M) b σ M2 fun i M3 => wpSetIx o i v M3 (D.nx σ)
  | .setFld a f e, X, D, σ, M => wpE P (fun x M => X x σ M) e σ M fun v M1 => wpE P (fun x M => X x σ M) a σ M1 fun o M2 => wpSetFld P o f v M2 (D.nx σ)
  | .aug i o e, X, D, σ, M => ∃ d, σ[i]? = some (some d) ∧ wpE P (fun x M => X x σ M) e σ M fun y M1 => wpInp o d y M1 fun z M2 => D.nx (σ.set i (some z)) M2
  | .augFld a f o e, X, D, σ, M => wpE P (fun x M => X x σ M) a σ M fun x M1 => wpFld P x f M1 fun v M1 => wpE P (fun x M => X x σ M) e σ M1 fun y M2 => wpInp o v y M2 fun z M3 => wpSetFld P x f z M3 (D.nx σ)
  | .delIx a b, X, D, σ, M => wpE P (fun x M => X x σ M) a σ M fun o M1 => wpE P (fun x M => X x σ M) b σ M1 fun i M2 => wpDel o i M2 (D.nx σ)
  | .ite c a b, X, D, σ, M => wpT P (fun x M => X x σ M) c σ M fun r M1 => if r = true then wpSs P a X D σ M1 else wpSs P b X D σ M1
  | .wh c b, X, D, σ, M => ∃ n, whL (fun σ M k => wpT P (fun x M => X x σ M) c σ M k) (fun D σ M => wpSs P b X D σ M) D n σ M
  | .for t k es b, X, D, σ, M => wpEs P (fun x M => X x σ M) es σ M fun ds M1 => wpIt k ds M1 fun xs G M2 fin =>
      forL t (fun D σ M => wpSs P b (fun x σ M => X x σ (fin M)) D σ M) G ⟨fun σ M => D.nx σ (fin M), fun d M => D.rt d (fin M), fun σ M => D.nx σ (fin M), fun _ _ => False⟩ xs σ M2
  | .brk, _, D, σ, M => D.bk σ M
  | .cnt, _, D, σ, M => D.ct σ M
  | .pass, _, D, σ, M => D.nx σ M
  | .raise c es, X, _, σ, M => wpEs P (fun x M => X x σ M) es σ M fun ds M1 => X (.exn c ds) σ M1
  | .tryE b c i h, X, D, σ, M => wpSs P b (fun x σ1 M1 => match x with
    | .exn c' ds => if P.sub c' c = true then
        (match i with
        | some i => wpSs P h X ⟨fun σ2 M2 => D.nx (σ2.set i none) M2, D.rt, fun σ2 M2 => D.bk (σ2.set i none) M2, fun σ2 M2 => D.ct (σ2.set i none) M2⟩ (σ1.set i (some x)) M1
        | none => wpSs P h X D σ1 M1)
      else X x σ1 M1
    | _ => False) D σ M
  | .bad, _, _, _, _ => False
def wpSs (P : Pr) : Ss → (D → Lo → Mp → Prop) → Ends → Lo → Mp → Prop
  | .nil, _, D, σ, M => D.nx σ M
  | .cons s ss, X, D, σ, M => wpS P s X { D with nx := fun σ1 M1 => wpSs P ss X D σ1 M1 } σ M
end
/-- a def keeps its promise: n names, a body -/
def startL (n : Nat) (ds : List D) : Lo := ds.map some ++ List.replicate (n - ds.length) none
def Keeps (P : Pr) (sp : Spec) (n : Nat) (body : Ss) : Prop :=
  ∀ ds M Q X, sp ds M Q X → wpSs P body (fun x _ M => X x M) ⟨fun _ M => Q .non M, Q, fun _ _ => False, fun _ _ => False⟩ (startL n ds) M
end L3
end
section
set_option autoImplicit false
set_option linter.all false
set_option maxRecDepth 100000
/-! L3: from the text's syntax to the small language -/
namespace L3
open PySem

/-- what a name of the module is -/
inductive GR where
  | fn (i : Nat)
  | cls (c f : Nat)
  | mth (c f : Nat)
  | con (d : D)
  | blt
  | tab (t : Nat)
  | exc (c : Nat)
structure CC where
  N : List Str
  sc : Scope
  gl : List (Str × GR)
  /-- cells are its own -/
  cs : Bool := true
/-- the scope of a block as it runs -/
def relC (scope sc : Scope) : Scope :=
  { scope with names := scope.names.map fun (n, k) => if (k == .free && sc.kind == .function && sc.names.lookup n == some .cell) then (n, .cell) else (n, k) }
def ownC (N : List Str) (scope : Scope) : List (Str × Nat) := scope.names.filterMap fun y => if y.2 == .local || y.2 == .cell then (N.findIdx? (· == y.1)).map fun i => (y.1, i) else none
def blkB (N : List Str) (sc scope : Scope) : Bool :=
  decide (scope.kind = .function) && scope.names.all (fun y => decide (scope.names.lookup y.1 = some y.2)) && scope.names.all (fun y => !decide (y.2 = .free) || (decide (sc.names.lookup y.1 = some .cell) || decide (sc.names.lookup y.1 = some .free))) &&
    scope.names.all fun y => !(decide (y.2 = .local) || decide (y.2 = .cell)) || (((ownC N scope).map (·.1)).contains y.1 || !N.contains y.1)
/-- a method's key among the names -/
def dotted (m : Str) : Str := ⟨#[46] ++ m.cps⟩
def CC.slot (cc : CC) (x : Str) : Option Nat :=
  if x == "__debug__" || x == "__classdict__" then none else
  match cc.sc.names.lookup x with
  | some .local => cc.N.findIdx? (· == x)
  | some .cell => cc.N.findIdx? (· == x)
  | some .free => cc.N.findIdx? (· == x)
  | _ => none
/-- a slot that may be stored to -/
def CC.slotW (cc : CC) (x : Str) : Option Nat :=
  match cc.sc.names.lookup x with
  | some .local => cc.N.findIdx? (· == x)
  | some .cell => if cc.cs then cc.N.findIdx? (· == x) else none
  | _ => none
def CC.glob (cc : CC) (x : Str) : Option GR :=
  if x == "__debug__" || x == "__name__" then none else
  match cc.sc.names.lookup x with
  | some .globalImplicit => cc.gl.lookup x
  | _ => none
def cBop : Operator → Option BOp
  | .Add => some .add
  | .Sub => some .sub
  | .Mult => some .mul
  | .FloorDiv => some .fdiv
  | .Mod => some .mod
  | .Pow => some .pow
  | .LShift => some .shl
  | .RShift => some .shr
  | _ => none
def cCop : CmpOp → COp
  | .Eq => .eq
  | .NotEq => .ne
  | .Lt => .lt
  | .LtE => .le
  | .Gt => .gt
  | .GtE => .ge
  | .In => .isIn
  | .NotIn => .notIn
  | .Is => .is
  | .IsNot => .isNot
def cBlt (x : Str) : Option Blt :=
  if x == "len" then some .len
  else if x == "int" then some .int
  else if x == "repr" then some .repr
  else if x == "max" then some .max
  else if x == "min" then some .min
  else if x == "abs" then some .abs
  else if x == "str" then some .str
  else if x == "list" then some .list
  else if x == "tuple" then some .tuple
  else if x == "sum" then some .sum
  else if x == "sorted" then some .sorted
  else none
def cSeq (x : Str) : Option SeqF :=
  if x == "list" then some .list
  else if x == "tuple" then some .tuple
  else if x == "sorted" then some .sorted
  else if x == "sum" then some .sum
  else none
def cMth (x : Str) : Option Mth :=
  if x == "append" then some .append
  else if x == "extend" then some .extend
  else if x == "pop" then some .pop
  else if x == "index" then some .index
  else if x == "get" then some .get
  else if x == "join" then some .join
  else if x == "split" then some .split
  else none
def notStar : Expr → Bool
  | .Starred .. => false
  | _ => true
def notSlice : Expr → Bool
  | .Slice .. => false
  | _ => true
/-- a target -/
def cTgs (cc : CC) : List Expr → Option (List Nat)
  | [] => some []
  | .Name x _ :: r => (match cc.slotW x, cTgs cc r with
    | some i, some l => some (i :: l)
    | _, _ => none)
  | _ => none
def cTg (cc : CC) (t : Expr) : Option Tg := match t with
  | .Name x _ => (match cc.slotW x with
    | some i => some (.one i)
    | none => none)
  | .Tuple es _ _ => (match cTgs cc es with
    | some l => some (.many l)
    | none => none)
  | _ => none
def isTupE : Expr → Bool
  | .Tuple .. => true
  | _ => false
/-- pairs come as tuples of their own: a tuple must take them -/
def itOk (k : ItK) (tg : Expr) : Bool := match k with
  | .items => isTupE tg
  | .enumerate => isTupE tg
  | _ => true
/-- no call without arguments of a name: super() stands apart -/
def noSuper : Expr → Bool
  | .Call (.Name ..) [] [] _ => false
  | _ => true
/-- an expression whose test is its value's truth -/
def plainTest : Expr → Bool
  | .Name .. => true
  | .Call .. => true
  | .Subscript .. => true
  | .Attribute .. => true
  | .Constant .. => true
  | _ => false
def noComp : Expr → Bool
  | .ListComp .. => false
  | .SetComp .. => false
  | .DictComp .. => false
  | _ => true
def cTy (x : Str) : Option Ty :=
  if x == "int" then some .int
  else if x == "bool" then some .bool
  else if x == "str" then some .str
  else if x == "list" then some .list
  else if x == "tuple" then some .tuple
  else none
/-- a comprehension put into a local name of its line -/
def swapC (cc : CC) (x : Str) (px : Pos) : Expr → Bool
  | .ListComp _ [⟨_, _, _, 0⟩] scope pos => decide (cc.sc.names.lookup x = some .local) && (px.line == pos.line) && !(scope.names.any fun (n, k) => n == x && (k == .local || k == .cell))
  | _ => false
def noSet : Expr → Bool
  | .Set .. => false
  | _ => true
/-- how many pairs a display may have -/
def dispN (n : Nat) : Bool := decide (n ≤ 15) || (decide (18 ≤ n) && decide (n ≤ 32))
def keyTxts : List (Option Expr) → List Str
  | some (.Constant (.str x) _ _) :: ks => x :: keyTxts ks
  | _ :: ks => keyTxts ks
  | [] => []
mutual
def cE : Nat → CC → Expr → Option E
  | 0, _, _ => none
  | n + 1, cc, e => match e with
    | .Name x _ => (match cc.slot x with
      | some i => some (.var i)
      | none => match cc.glob x with
        | some (.con d) => some (.con d)
        | _ => none)
    | .Constant c _ _ => (match c with
      | .int i => some (.int i)
      | .bool b => some (.bl b)
      | .str x => some (.str x)
      | .none => some .non
      | _ => none)
    | .BinOp a o b _ => (match cBop o, cE n cc a, cE n cc b with
      | some o', some a', some b' => some (.bin o' a' b')
      | _, _, _ => none)
    | .UnaryOp .Not a _ => (match cE n cc a with
      | some a' => some (.not a')
      | _ => none)
    | .UnaryOp .USub a _ => (match cE n cc a with
      | some a' => some (.un .neg a')
      | _ => none)
    | .Compare a [o] [b] _ => if behindInMarks o b then none else (match cE n cc a, cE n cc b with
      | some a', some b' => some (.cmp (cCop o) a' b')
      | _, _ => none)
    | .Compare a [o, o'] [b, c] _ => if lastMarks [o, o'] [b, c] then none else (match cE n cc a, cE n cc b, cE n cc c with
      | some a', some b', some c' => some (.cmp2 (cCop o) (cCop o') a' b' c')
      | _, _, _ => none)
    | .BoolOp _ [a] _ => cE n cc a
    | .BoolOp .And (a :: b :: r) p => (match cE n cc a, cE n cc (.BoolOp .And (b :: r) p) with
      | some a', some b' => some (.and a' b')
      | _, _ => none)
    | .BoolOp .Or (a :: b :: r) p => (match cE n cc a, cE n cc (.BoolOp .Or (b :: r) p) with
      | some a', some b' => some (.or a' b')
      | _, _ => none)
    | .IfExp c a b _ => (match cT n cc c, cE n cc a, cE n cc b with
      | some c', some a', some b' => some (.ite c' a' b')
      | _, _, _ => none)
    | .Tuple es _ _ => (match cEs n cc es with
      | some es' => some (.tup es')
      | _ => none)
    | .List es _ => (match cEs n cc es with
      | some es' => some (.lst es')
      | _ => none)
    | .Subscript a (.Slice lo hi none _) _ => (match cE n cc a, cP n cc lo, cP n cc hi with
      | some a', some l', some h' => some (.sl a' l' h')
      | _, _, _ => none)
    | .Subscript a b _ => if notSlice b then (match cE n cc a, cE n cc b with
      | some a', some b' => some (.ix a' b')
      | _, _ => none) else none
    | .Dict [] [] _ => some (.dct .nil)
    | .Dict (k :: ks) (v :: vs) _ => if decide (ks.length = vs.length) && dispN (ks.length + 1) && decide (keyTxts (k :: ks)).Nodup then (match cPs n cc (k :: ks) (v :: vs) with
      | some es' => some (.dct es')
      | none => none) else none
    | .Attribute o f _ => if noSuper o then (match cE n cc o with
      | some o' => some (.fld o' f)
      | none => none) else none
    | .ListComp ex [⟨tg, it, ifs, 0⟩] scope _ => if blkB cc.N cc.sc scope then (match cI n cc it, cTg { cc with sc := relC scope cc.sc, cs := false } tg, cIf n { cc with sc := relC scope cc.sc, cs := false } ifs, cE n { cc with sc := relC scope cc.sc, cs := false } ex with
      | some (k, es'), some t', some c', some ex' => if itOk k tg && t'.sl.all (fun i => ((ownC cc.N scope).map (·.2)).contains i) then some (.comp ((ownC cc.N scope).map (·.2)) ex' t' k es' c') else none
      | _, _, _, _ => none) else none
    | .DictComp kx vx [⟨tg, it, ifs, 0⟩] scope _ => if blkB cc.N cc.sc scope then (match cI n cc it, cTg { cc with sc := relC scope cc.sc, cs := false } tg, cIf n { cc with sc := relC scope cc.sc, cs := false } ifs, cE n { cc with sc := relC scope cc.sc, cs := false } kx, cE n { cc with sc := relC scope cc.sc, cs := false } vx with
      | some (k, es'), some t', some c', some kx', some vx' => if itOk k tg && t'.sl.all (fun i => ((ownC cc.N scope).map (·.2)).contains i) then some (.dcomp ((ownC cc.N scope).map (·.2)) kx' vx' t' k es' c') else none
      | _, _, _, _, _ => none) else none
    | .Call (.Name "list" _) [.Call (.Attribute o "items" ap) [] [] cp] [] _ => if noSuper o && (ap.endLine == cp.line) then (match cc.glob "list", cE n cc o with
      | some .blt, some o' => some (.seq .list .items (.cons o' .nil))
      | _, _ => none) else none
    | .Call (.Name "sorted" _) [.Call (.Attribute o "items" ap) [] [] cp] [] _ => if noSuper o && (ap.endLine == cp.line) then (match cc.glob "sorted", cE n cc o with
      | some .blt, some o' => some (.seq .sorted .items (.cons o' .nil))
      | _, _ => none) else none
    | .Call (.Name "isinstance" _) [a, .Name T _] [] _ => if notStar a then (match cc.glob "isinstance", cc.glob T, cTy T, cE n cc a with
      | some .blt, some .blt, some t, some a' => some (.inst a' t)
      | _, _, _, _ => none) else none
    | .Call (.Name f _) es [] _ => (match cc.glob f, cEs n cc es with
      | some (.fn i), some es' => some (.call i es')
      | some (.cls c i), some es' => some (.make c i es')
      | some .blt, some es' => (match cBlt f with
        | some b => (match es with
          | [] => none
          | _ => some (.blt b es'))
        | none => none)
      | _, _ => none)
    | .Call (.Attribute (.Name x np) m ap) es [] cp => if m == "index" && (ap.endLine == cp.line) && decide (es.length = 1) then (match cc.glob x, cEs n cc es with
      | some (.con (.kt ds)), some es' => some (.cidx ds es')
      | some (.con (.str z)), some es' => some (.mth (.con (.str z)) .index es')
      | _, _ => none) else (match cMth m, cE n cc (.Name x np), cEs n cc es with
      | some m', some o', some es' => if (ap.endLine == cp.line) && decide (es.length < 25) then some (.mth o' m' es') else none
      | none, some o', some es' => if (ap.endLine == cp.line) && decide (es.length < 25) then (match cc.gl.lookup (dotted m) with
        | some (.mth c f) => some (.umth o' m c f es')
        | _ => none) else none
      | _, _, _ => none)
    | .Call (.Attribute o m ap) es [] cp => if noSuper o && (ap.endLine == cp.line) && decide (es.length < 25) then (match cMth m, cE n cc o, cEs n cc es with
      | some m', some o', some es' => some (.mth o' m' es')
      | none, some o', some es' => (match cc.gl.lookup (dotted m) with
        | some (.mth c f) => some (.umth o' m c f es')
        | _ => none)
      | _, _, _ => none) else none
    | _ => none
def cEs : Nat → CC → List Expr → Option Es
  | 0, _, _ => none
  | _ + 1, _, [] => some .nil
  | n + 1, cc, e :: es => if notStar e then (match cE n cc e, cEs n cc es with
    | some e', some es' => some (.cons e' es')
    | _, _ => none) else none
/-- a display's pairs, keys written texts -/
def cPs : Nat → CC → List (Option Expr) → List Expr → Option Es
  | 0, _, _, _ => none
  | _ + 1, _, [], [] => some .nil
  | n + 1, cc, some (.Constant (.str x) _ _) :: ks, v :: vs => (match cE n cc v, cPs n cc ks vs with
    | some v', some es' => some (.cons (.str x) (.cons v' es'))
    | _, _ => none)
  | _ + 1, _, _, _ => none
/-- a slice's part -/
def cP : Nat → CC → Option Expr → Option E
  | 0, _, _ => none
  | _ + 1, _, none => some .non
  | n + 1, cc, some e => cE n cc e
def cT : Nat → CC → Expr → Option T
  | 0, _, _ => none
  | n + 1, cc, e => match e with
    | .BoolOp _ [a] _ => cT n cc a
    | .BoolOp .And (a :: b :: r) p => (match cT n cc a, cT n cc (.BoolOp .And (b :: r) p) with
      | some a', some b' => some (.and a' b')
      | _, _ => none)
    | .BoolOp .Or (a :: b :: r) p => (match cT n cc a, cT n cc (.BoolOp .Or (b :: r) p) with
      | some a', some b' => some (.or a' b')
      | _, _ => none)
    | .UnaryOp .Not a _ => (match cT n cc a with
      | some a' => some (.not a')
      | _ => none)
    | .Compare a [o] [b] _ => if behindInMarks o b then none else (match cE n cc a, cE n cc b with
      | some a', some b' => some (.val (.cmp (cCop o) a' b'))
      | _, _ => none)
    | .Compare a [o, o'] [b, c] _ => if lastMarks [o, o'] [b, c] then none else (match cE n cc a, cE n cc b, cE n cc c with
      | some a', some b', some c' => some (.val (.cmp2 (cCop o) (cCop o') a' b' c'))
      | _, _, _ => none)
    | e => if plainTest e then (match cE n cc e with
      | some e' => some (.val e')
      | _ => none) else none
/-- the tests of a comprehension -/
def cIf : Nat → CC → List Expr → Option T
  | 0, _, _ => none
  | _ + 1, _, [] => some .tt
  | n + 1, cc, [c] => cT n cc c
  | _, _, _ => none
/-- what a loop walks -/
def cI : Nat → CC → Expr → Option (ItK × Es)
  | 0, _, _ => none
  | n + 1, cc, e => match e with
  | .Call (.Attribute o m ap) [] [] cp => if m == "items" && noSuper o && (ap.endLine == cp.line) then (match cE n cc o with
    | some o' => some (.items, .cons o' .nil)
    | none => none) else if m == "values" && noSuper o && (ap.endLine == cp.line) then (match cE n cc o with
    | some o' => some (.values, .cons o' .nil)
    | none => none) else none
  | .Call (.Name f _) es [] _ => (match cc.glob f, cEs n cc es with
    | some .blt, some es' => if f == "range" then (match es with
        | [_] => some (.range, es')
        | [_, _] => some (.range, es')
        | _ => none)
      else if f == "reversed" then (match es with
        | [_] => some (.reversed, es')
        | _ => none)
      else if f == "enumerate" then (match es with
        | [_] => some (.enumerate, es')
        | _ => none)
      else if f == "sorted" then (match es with
        | [_] => some (.plain, .cons (.blt .sorted es') .nil)
        | _ => none)
      else if f == "list" then (match es with
        | [_] => some (.plain, .cons (.blt .list es') .nil)
        | _ => none)
      else none
    | some (.fn i), some es' => some (.plain, .cons (.call i es') .nil)
    | _, _ => none)
  | e => (match cE n cc e with
    | some e' => if noSet e then some (.plain, .cons e' .nil) else none
    | none => none)
end
mutual
def cS : Nat → CC → Stmt → Option S
  | 0, _, _ => none
  | n + 1, cc, s => match s with
    | .Expr e _ => if noComp e then (match cE n cc e with
      | some e' => some (.expr e')
      | none => none) else none
    | .Return none _ => some .retN
    | .Delete [.Subscript a b _] _ => if notSlice b then (match cE n cc a, cE n cc b with
      | some a', some b' => some (.delIx a' b')
      | _, _ => none) else none
    | .Return (some e) _ => (match cE n cc e with
      | some e' => some (.ret e')
      | none => none)
    | .Assign [.Name x px] e _ => if noComp e then (match cc.slotW x, cE n cc e with
      | some i, some e' => some (.set (.one i) e')
      | _, _ => none) else if swapC cc x px e then (match cc.slotW x, cE n cc e with
      | some i, some e' => some (.set (.one i) e')
      | _, _ => none) else none
    | .Assign [.Tuple ts k p] e _ => if noComp e && !isTupE e then (match cTg cc (.Tuple ts k p), cE n cc e with
      | some t, some e' => some (.set t e')
      | _, _ => none) else none
    | .Assign [.Attribute o f _] e _ => if noSuper o then (match cE n cc o, cE n cc e with
      | some o', some e' => some (.setFld o' f e')
      | _, _ => none) else none
    | .AugAssign (.Attribute a f _) o e _ => (match cE n cc a, cBop o, cE n cc e with
      | some a', some o', some e' => some (.augFld a' f o' e')
      | _, _, _ => none)
    | .Assign [.Subscript a b _] e _ => if notSlice b && noComp e then (match cE n cc a, cE n cc b, cE n cc e with
      | some a', some b', some e' => some (.setIx a' b' e')
      | _, _, _ => none) else none
    | .AugAssign (.Name x _) o e _ => (match cc.slotW x, cBop o, cE n cc e with
      | some i, some o', some e' => some (.aug i o' e')
      | _, _, _ => none)
    | .If c a b _ => (match cT n cc c, cSs n cc a, cSs n cc b with
      | some c', some a', some b' => some (.ite c' a' b')
      | _, _, _ => none)
    | .While c b [] _ => (match cT n cc c, cSs n cc b with
      | some c', some b' => some (.wh c' b')
      | _, _ => none)
    | .For t i b [] _ => (match cTg cc t, cI n cc i, cSs n cc b with
      | some t', some (k, es'), some b' => if itOk k t then some (.for t' k es' b') else none
      | _, _, _ => none)
    | .Pass _ => some .pass
    | .Break _ => some .brk
    | .Continue _ => some .cnt
    | _ => none
def cSs : Nat → CC → List Stmt → Option Ss
  | 0, _, _ => none
  | _ + 1, _, [] => some .nil
  | n + 1, cc, s :: ss => (match cSs n cc ss with
    | some ss' => some (.cons ((cS n cc s).getD .bad) ss')
    | none => none)
end
end L3
end
section
set_option autoImplicit false
set_option linter.all false
set_option maxRecDepth 100000
/-! L3: how the values and the heap of the small language lie in the hand layer's -/
namespace L3
open PySem L2

/-- the written part, the classes' addresses -/
structure Ct where
  P : Program
  w : World
  K : PySem.W.Frag
  ca : Nat → Addr

/-- a list that nothing changes -/
def SqF (K : PySem.W.Frag) (H : Hp) (a : Addr) (xs : List V) : Prop :=
  (∃ ob, H a = some (.frz ob (.lst xs))) ∨
    ∃ (o : Obj) (its : Array Value) (n : Nat), K.lookup a = some o ∧ o.cls = .type "list" ∧ o.dict = none ∧ o.data = .seq its n ∧ its.size ≤ sizeLine ∧ Vals xs its.toList
theorem SqF.sq {K : PySem.W.Frag} {H : Hp} {a : Addr} {xs : List V} (h : SqF K H a xs) : SqL K H a xs := by
  rcases h with ⟨ob, h⟩ | h
  · exact .inl (.inr ⟨ob, h⟩)
  · exact .inr h
/-- a tuple: of the heap, or of the module -/
def SqU (K : PySem.W.Frag) (H : Hp) (a : Addr) (xs : List V) : Prop := H a = some (.tup xs) ∨ SqT K (fun _ => none) a xs
mutual
def RD (C : Ct) (H : Hp) : D → V → Prop
  | .non, v => v = .non
  | .bl b, v => v = .bl b
  | .int i, v => v = .int i
  | .str x, v => v = .str x
  | .tup ds, v => ∃ a xs, v = .ref a ∧ SqU C.K H a xs ∧ RDs C H ds xs
  | .kt ds, v => ∃ a xs, v = .ref a ∧ SqT C.K (fun _ => none) a xs ∧ RDs C H ds xs
  | .ref a, v => v = .ref a
  | .kl ds, v => ∃ a xs, v = .ref a ∧ SqF C.K H a xs ∧ RDs C H ds xs
  | .exn _ _, _ => False
def RDs (C : Ct) (H : Hp) : List D → List V → Prop
  | [], xs => xs = []
  | d :: ds, xs => ∃ x r, xs = x :: r ∧ RD C H d x ∧ RDs C H ds r
end
def KRel : D → Key → Prop
  | .int i, .inl j => i = j
  | .str x, .inr y => x = y
  | _, _ => False
def RDct (C : Ct) (H : Hp) (kvs : List (D × D)) (o : HO) : Prop :=
  ∃ ks : List (Key × V), o = .dK ks ∧ Paired (fun (p : D × D) (q : Key × V) => KRel p.1 q.1 ∧ RD C H p.2 q.2) kvs ks
/-- a dict whose keys are tuples, by its entries -/
def nD (P : Program) (w : World) (a : Addr) (xs : List (NestedKey × Addr × V)) : HO := .ext fun h =>
  ∃ (us : List (NestedKey × Addr × Value)) (o : Obj) (es : Array DictEntry) (ep : Nat), Paired (fun (p : NestedKey × Addr × V) (q : NestedKey × Addr × Value) => p.1 = q.1 ∧ p.2.1 = q.2.1 ∧ RelV p.2.2 q.2.2) xs us ∧
    h.get? a = some o ∧ o.ExactDict ∧ o.data = .dict es ep ∧ es.toList = us.map (entryOfKey (nestedKind P w))
abbrev PTd (C : Ct) (H : Hp) (kvs : List (D × D)) (xs : List (NestedKey × Addr × V)) : Prop :=
  Paired (fun (p : D × D) (q : NestedKey × Addr × V) => p.1.hkT = true ∧ p.1.key = q.1 ∧ RD C H p.1 (.ref q.2.1) ∧ RD C H p.2 q.2.2) kvs xs
def RDT (C : Ct) (H : Hp) (a : Addr) (kvs : List (D × D)) (o : HO) : Prop :=
  (a == sysModules) = false ∧ kvs.length ≤ sizeLine ∧ ∃ xs, o = nD C.P C.w a xs ∧ (xs.map (·.1)).Nodup ∧ PTd C H kvs xs
theorem RDT.notup {C : Ct} {H : Hp} {a : Addr} {kvs : List (D × D)} {xs : List V} (h : RDT C H a kvs (.tup xs)) : False := by
  obtain ⟨_, _, ys, e, _⟩ := h
  exact nomatch (show HO.tup xs = HO.ext _ from e)
theorem RDT.nofrz {C : Ct} {H : Hp} {a : Addr} {kvs : List (D × D)} {ob : Obj} {u : HO} (h : RDT C H a kvs (.frz ob u)) : False := by
  obtain ⟨_, _, ys, e, _⟩ := h
  exact nomatch (show HO.frz ob u = HO.ext _ from e)
theorem RDT.nolst {C : Ct} {H : Hp} {a : Addr} {kvs : List (D × D)} {xs : List V} (h : RDT C H a kvs (.lst xs)) : False := by
  obtain ⟨_, _, ys, e, _⟩ := h
  exact nomatch (show HO.lst xs = HO.ext _ from e)
def RO (C : Ct) (H : Hp) (a : Addr) : MO → HO → Prop
  | .lst ds, .lst xs => RDs C H ds xs
  | .dct kvs, o => RDct C H kvs o
  | .lck kvs, .frz _ o => RDct C H kvs o
  | .dcT kvs, o => RDT C H a kvs o
  | .lkT kvs, .frz _ o => RDT C H a kvs o
  | .ins c fs, .ins B _ gs => C.ca c = B ∧ Paired (fun (p : Str × D) (q : Str × V) => p.1 = q.1 ∧ RD C H p.2 q.2) fs gs
  | _, _ => False
def RM (C : Ct) (H : Hp) (M : Mp) : Prop := ∀ a o, M a = some o → ∃ u, H a = some u ∧ RO C H a o u
/-- what is tracked, but not told in M, stays -/
def Stp (H : Hp) (M : Mp) (H' : Hp) (M' : Mp) : Prop := (∀ a o, H a = some o → M a = none → H' a = some o ∧ M' a = none) ∧ ∀ a ob u, H a = some (.frz ob u) → H' a = some (.frz ob u)
theorem Stp.refl {H : Hp} {M : Mp} : Stp H M H M := ⟨fun _ _ h n => ⟨h, n⟩, fun _ _ _ h => h⟩
theorem Stp.trans {H H1 H2 : Hp} {M M1 M2 : Mp} (a : Stp H M H1 M1) (b : Stp H1 M1 H2 M2) : Stp H M H2 M2 := ⟨fun c o h n => by
  obtain ⟨h1, n1⟩ := a.1 c o h n
  exact b.1 c o h1 n1, fun c ob u h => b.2 c ob u (a.2 c ob u h)⟩

theorem RO.notup {C : Ct} {H : Hp} {a : Addr} {o : MO} {xs : List V} (h : RO C H a o (.tup xs)) : False := by
  cases o with
  | dct kvs =>
    obtain ⟨ks, e, _⟩ := h; cases e
  | dcT kvs => exact RDT.notup h
  | _ => exact h
theorem RO.nofrzt {C : Ct} {H : Hp} {a : Addr} {o : MO} {ob : Obj} {xs : List V} (h : RO C H a o (.frz ob (.tup xs))) : False := by
  cases o with
  | dct kvs => obtain ⟨ks, e, _⟩ := h; cases e
  | lck kvs => obtain ⟨ks, e, _⟩ := h; cases e
  | dcT kvs => exact RDT.nofrz h
  | lkT kvs => exact RDT.notup h
  | _ => exact h
theorem RO.nofrzl {C : Ct} {H : Hp} {a : Addr} {o : MO} {ob : Obj} {xs : List V} (h : RO C H a o (.frz ob (.lst xs))) : False := by
  cases o with
  | dct kvs => obtain ⟨ks, e, _⟩ := h; cases e
  | lck kvs => obtain ⟨ks, e, _⟩ := h; cases e
  | dcT kvs => exact RDT.nofrz h
  | lkT kvs => exact RDT.nolst h
  | _ => exact h
section
variable {C : Ct} {H H' : Hp} {M M' : Mp}
theorem RM.frzl {a : Addr} {ob : Obj} {xs : List V} (r : RM C H M) (h : H a = some (.frz ob (.lst xs))) : M a = none := by
  cases e : M a with
  | none => rfl
  | some o =>
    obtain ⟨u, hu, ro⟩ := r a o e
    rw [h] at hu; cases hu
    exact ro.nofrzl.elim
theorem RM.tup {a : Addr} {xs : List V} (r : RM C H M) (h : H a = some (.tup xs)) : M a = none := by
  cases e : M a with
  | none => rfl
  | some o =>
    obtain ⟨u, hu, ro⟩ := r a o e
    rw [h] at hu; cases hu
    exact ro.notup.elim
theorem RM.frzt {a : Addr} {ob : Obj} {xs : List V} (r : RM C H M) (h : H a = some (.frz ob (.tup xs))) : M a = none := by
  cases e : M a with
  | none => rfl
  | some o =>
    obtain ⟨u, hu, ro⟩ := r a o e
    rw [h] at hu; cases hu
    exact ro.nofrzt.elim
/-- tuples and lists that nothing changes stay -/
theorem sqk {K : PySem.W.Frag} {H : Hp} {a : Addr} {xs : List V} (h : SqT K (fun _ => none) a xs) : SqT K H a xs := by
  rcases h with (h | ⟨_, h⟩) | h
  · cases h
  · cases h
  · exact .inr h
theorem SqU.sq {K : PySem.W.Frag} {H : Hp} {a : Addr} {xs : List V} (h : SqU K H a xs) : SqT K H a xs := by
  rcases h with h | h
  · exact .inl (.inl h)
  · exact sqk h
def TupK0 (H H' : Hp) : Prop := (∀ a xs, H a = some (.tup xs) → H' a = some (.tup xs)) ∧ ∀ a ob xs, H a = some (.frz ob (.lst xs)) → H' a = some (.frz ob (.lst xs))
/-- .. and all that is frozen -/
def TupK (H H' : Hp) : Prop := (∀ a xs, H a = some (.tup xs) → H' a = some (.tup xs)) ∧ ∀ a ob u, H a = some (.frz ob u) → H' a = some (.frz ob u)
theorem TupK.weak (k : TupK H H') : TupK0 H H' := ⟨k.1, fun a ob xs h => k.2 a ob _ h⟩
theorem TupK.refl {H : Hp} : TupK H H := ⟨fun _ _ h => h, fun _ _ _ h => h⟩
theorem TupK.trans {H H1 H2 : Hp} (a : TupK H H1) (b : TupK H1 H2) : TupK H H2 := ⟨fun c xs h => b.1 c xs (a.1 c xs h), fun c ob xs h => b.2 c ob xs (a.2 c ob xs h)⟩
theorem Stp.tupK (r : RM C H M) (s : Stp H M H' M') : TupK H H' := ⟨fun a xs h => (s.1 a _ h (r.tup h)).1, s.2⟩
theorem TupK0.squ (k : TupK0 H H') {K : PySem.W.Frag} {a : Addr} {xs : List V} (h : SqU K H a xs) : SqU K H' a xs := by
  rcases h with h | h
  · exact .inl (k.1 a xs h)
  · exact .inr h
theorem TupK0.sqf (k : TupK0 H H') {K : PySem.W.Frag} {a : Addr} {xs : List V} (h : SqF K H a xs) : SqF K H' a xs := by
  rcases h with ⟨ob, h⟩ | h
  · exact .inl ⟨ob, k.2 a ob xs h⟩
  · exact .inr h
mutual
theorem RD.keep0 (k : TupK0 H H') : ∀ {d : D} {v : V}, RD C H d v → RD C H' d v
  | .non, v, h => h
  | .bl b, v, h => h
  | .int i, v, h => h
  | .str x, v, h => h
  | .tup ds, v, h => by
    obtain ⟨a, xs, e, hq, hs⟩ := h
    exact ⟨a, xs, e, k.squ hq, RDs.keep0 k hs⟩
  | .kt ds, v, h => by
    obtain ⟨a, xs, e, hq, hs⟩ := h
    exact ⟨a, xs, e, hq, RDs.keep0 k hs⟩
  | .ref a, v, h => h
  | .kl ds, v, h => by
    obtain ⟨a, xs, e, hq, hs⟩ := h
    exact ⟨a, xs, e, k.sqf hq, RDs.keep0 k hs⟩
  | .exn _ _, v, h => h
theorem RDs.keep0 (k : TupK0 H H') : ∀ {ds : List D} {xs : List V}, RDs C H ds xs → RDs C H' ds xs
  | [], xs, h => h
  | d :: ds, xs, h => by
    obtain ⟨x, r, e, h1, h2⟩ := h
    exact ⟨x, r, e, RD.keep0 k h1, RDs.keep0 k h2⟩
end
theorem RD.cn {d : D} {v : V} (h : RD C H d v) : RD C H d.cn v := by
  cases d with
  | kt ds =>
    obtain ⟨a, xs, e, hq, rs⟩ := h
    exact ⟨a, xs, e, .inr hq, rs⟩
  | _ => exact h
theorem RDct.keep0 (k : TupK0 H H') {kvs : List (D × D)} {o : HO} (h : RDct C H kvs o) : RDct C H' kvs o := by
  obtain ⟨ks, e, p⟩ := h
  exact ⟨ks, e, Paired.mapP p fun _ _ q => ⟨q.1, q.2.keep0 k⟩⟩
theorem RDT.keep0 (k : TupK0 H H') {a : Addr} {kvs : List (D × D)} {o : HO} (h : RDT C H a kvs o) : RDT C H' a kvs o := by
  obtain ⟨h1, h2, xs, e, n, p⟩ := h
  exact ⟨h1, h2, xs, e, n, Paired.mapP p fun _ _ q => ⟨q.1, q.2.1, q.2.2.1.keep0 k, q.2.2.2.keep0 k⟩⟩
theorem RO.keep0 (k : TupK0 H H') {a : Addr} {o : MO} {u : HO} (h : RO C H a o u) : RO C H' a o u := by
  cases o with
  | lst ds => cases u with
    | lst xs => exact RDs.keep0 k h
    | _ => exact h
  | dct kvs => exact RDct.keep0 k h
  | lck kvs => cases u with
    | frz ob u => exact RDct.keep0 k h
    | _ => exact h
  | dcT kvs => exact RDT.keep0 k h
  | lkT kvs => cases u with
    | frz ob u => exact RDT.keep0 k h
    | _ => exact h
  | ins c fs => cases u with
    | ins B dx gs => exact ⟨h.1, Paired.mapP h.2 fun _ _ q => ⟨q.1, q.2.keep0 k⟩⟩
    | _ => exact h
theorem RD.keep (k : TupK H H') {d : D} {v : V} (h : RD C H d v) : RD C H' d v := h.keep0 k.weak
theorem RDs.keep (k : TupK H H') {ds : List D} {xs : List V} (h : RDs C H ds xs) : RDs C H' ds xs := h.keep0 k.weak
theorem RDct.keep (k : TupK H H') {kvs : List (D × D)} {o : HO} (h : RDct C H kvs o) : RDct C H' kvs o := h.keep0 k.weak
theorem RO.keep (k : TupK H H') {a : Addr} {o : MO} {u : HO} (h : RO C H a o u) : RO C H' a o u := h.keep0 k.weak
theorem RDs.length : ∀ {ds : List D} {xs : List V}, RDs C H ds xs → ds.length = xs.length
  | [], xs, h => by rw [show xs = [] from h]; rfl
  | d :: ds, xs, h => by
    obtain ⟨x, r, e, _, h2⟩ := h
    rw [e, List.length_cons, List.length_cons, RDs.length h2]
theorem RDs.append : ∀ {ds es : List D} {xs ys : List V}, RDs C H ds xs → RDs C H es ys → RDs C H (ds ++ es) (xs ++ ys)
  | [], es, xs, ys, h, h2 => by rw [show xs = [] from h]; exact h2
  | d :: ds, es, xs, ys, h, h2 => by
    obtain ⟨x, r, e, h1, h3⟩ := h
    rw [e]
    exact ⟨x, r ++ ys, rfl, h1, RDs.append h3 h2⟩
theorem RDs.get : ∀ {ds : List D} {xs : List V} {i : Nat} {d : D}, RDs C H ds xs → ds[i]? = some d → ∃ x, xs[i]? = some x ∧ RD C H d x
  | [], xs, i, d, h, e => by simp at e
  | d :: ds, xs, 0, d', h, e => by
    obtain ⟨x, r, e2, h1, h2⟩ := h
    have : d = d' := by simpa using e
    subst this
    exact ⟨x, by rw [e2]; rfl, h1⟩
  | d :: ds, xs, i + 1, d', h, e => by
    obtain ⟨x, r, e2, h1, h2⟩ := h
    obtain ⟨y, hy, ry⟩ := RDs.get (i := i) (d := d') h2 (by simpa using e)
    exact ⟨y, by rw [e2]; simpa using hy, ry⟩
theorem RDs.set : ∀ {ds : List D} {xs : List V} (i : Nat) {d : D} {x : V}, RDs C H ds xs → RD C H d x → RDs C H (ds.set i d) (xs.set i x)
  | [], xs, i, d, x, h, r => by rw [show xs = [] from h]; exact rfl
  | d :: ds, xs, 0, d', x', h, r => by
    obtain ⟨x, l, e2, h1, h2⟩ := h
    rw [e2]
    exact ⟨x', l, rfl, r, h2⟩
  | d :: ds, xs, i + 1, d', x', h, r => by
    obtain ⟨x, l, e2, h1, h2⟩ := h
    rw [e2]
    exact ⟨x, l.set i x', rfl, h1, RDs.set i h2 r⟩
theorem RDs.drop : ∀ {ds : List D} {xs : List V} (n : Nat), RDs C H ds xs → RDs C H (ds.drop n) (xs.drop n)
  | ds, xs, 0, h => h
  | [], xs, n + 1, h => by rw [show xs = [] from h]; exact rfl
  | d :: ds, xs, n + 1, h => by
    obtain ⟨x, l, e2, h1, h2⟩ := h
    rw [e2]
    exact RDs.drop n h2
theorem RDs.take : ∀ {ds : List D} {xs : List V} (n : Nat), RDs C H ds xs → RDs C H (ds.take n) (xs.take n)
  | ds, xs, 0, h => rfl
  | [], xs, n + 1, h => by rw [show xs = [] from h]; exact rfl
  | d :: ds, xs, n + 1, h => by
    obtain ⟨x, l, e2, h1, h2⟩ := h
    rw [e2]
    exact ⟨x, l.take n, rfl, h1, RDs.take n h2⟩
theorem RDs.eraseIdx : ∀ {ds : List D} {xs : List V} (n : Nat), RDs C H ds xs → RDs C H (ds.eraseIdx n) (xs.eraseIdx n)
  | [], xs, n, h => by rw [show xs = [] from h]; exact rfl
  | d :: ds, xs, 0, h => by
    obtain ⟨x, l, e2, h1, h2⟩ := h
    rw [e2]
    exact h2
  | d :: ds, xs, n + 1, h => by
    obtain ⟨x, l, e2, h1, h2⟩ := h
    rw [e2]
    exact ⟨x, l.eraseIdx n, rfl, h1, RDs.eraseIdx n h2⟩
theorem RDs.reverse : ∀ {ds : List D} {xs : List V}, RDs C H ds xs → RDs C H ds.reverse xs.reverse
  | [], xs, h => by rw [show xs = [] from h]; exact rfl
  | d :: ds, xs, h => by
    obtain ⟨x, l, e2, h1, h2⟩ := h
    rw [e2, List.reverse_cons, List.reverse_cons]
    exact RDs.append (RDs.reverse h2) ⟨x, [], rfl, h1, rfl⟩
theorem RDs.splitLast {ds : List D} {d : D} {xs : List V} (h : RDs C H (ds ++ [d]) xs) : ∃ ys y, xs = ys ++ [y] ∧ RDs C H ds ys ∧ RD C H d y := by
  have h1 := RDs.take ds.length h
  have h2 := RDs.drop ds.length h
  rw [List.take_left' rfl] at h1
  rw [List.drop_left' rfl] at h2
  obtain ⟨y, r, e, h3, h4⟩ := h2
  rw [show r = [] from h4] at e
  refine ⟨xs.take ds.length, y, ?_, h1, h3⟩
  rw [← e, List.take_append_drop]

/-- the values by slot -/
def RL (C : Ct) (H : Hp) (σ3 : Lo) (σ : L2.St) : Prop := σ3.length = σ.length ∧ ∀ (i : Nat) (d : D), σ3[i]? = some (some d) → ∃ v, σ[i]? = some (some v) ∧ RD C H d v
theorem RL.keep0 (k : TupK0 H H') {σ3 : Lo} {σ : L2.St} (h : RL C H σ3 σ) : RL C H' σ3 σ :=
  ⟨h.1, fun i d e => let ⟨v, e1, r⟩ := h.2 i d e; ⟨v, e1, r.keep0 k⟩⟩
theorem RL.keep (k : TupK H H') {σ3 : Lo} {σ : L2.St} (h : RL C H σ3 σ) : RL C H' σ3 σ := h.keep0 k.weak
theorem RL.set {σ3 : Lo} {σ : L2.St} (h : RL C H σ3 σ) {i : Nat} {d : D} {v : V} (r : RD C H d v) : RL C H (σ3.set i (some d)) (σ.set i (some v)) := by
  refine ⟨by rw [List.length_set, List.length_set]; exact h.1, fun j d' e => ?_⟩
  by_cases hj : i = j
  · subst hj
    by_cases hl : i < σ3.length
    · rw [List.getElem?_set_self hl] at e
      cases e
      exact ⟨v, by rw [List.getElem?_set_self (by rw [← h.1]; exact hl)], r⟩
    · rw [List.getElem?_eq_none (by rw [List.length_set]; omega)] at e
      cases e
  · rw [List.getElem?_set_ne hj] at e
    obtain ⟨v', e1, r1⟩ := h.2 j d' e
    exact ⟨v', by rw [List.getElem?_set_ne hj]; exact e1, r1⟩
/-- forgetting is free -/
theorem RL.unset {σ3 : Lo} {σ : L2.St} (h : RL C H σ3 σ) (i : Nat) : RL C H (σ3.set i none) σ := by
  refine ⟨by rw [List.length_set]; exact h.1, fun j d' e => ?_⟩
  by_cases hj : i = j
  · subst hj
    by_cases hl : i < σ3.length
    · rw [List.getElem?_set_self hl] at e
      cases e
    · rw [List.getElem?_eq_none (by rw [List.length_set]; omega)] at e
      cases e
  · rw [List.getElem?_set_ne hj] at e
    exact h.2 j d' e
end

/-- a state of the small language within a context: M0 stood at the context's entry -/
structure I3 (C : Ct) (X : Cx) (M0 : Mp) (pins : List (Addr × Obj)) (σ3 : Lo) (M : Mp) (σ : L2.St) (H : Hp) (s : Shared) : Prop where
  inv : Inv X pins σ H s
  lo : RL C H σ3 σ
  hp : RM C H M
  st : Stp X.H_0 M0 H M
/-- an expression has come to its end -/
def EP3 (C : Ct) (X : Cx) (M0 : Mp) (pins : List (Addr × Obj)) (σ3 : Lo) (σ : L2.St) (H : Hp) (M : Mp) (Q : Post) (u : Value) (s' : Shared) : Prop :=
  ∃ d M' v H', I3 C X M0 pins σ3 M' σ H' s' ∧ RelV v u ∧ RD C H' d v ∧ Stp H M H' M' ∧ Q d M'
def EPs3 (C : Ct) (X : Cx) (M0 : Mp) (pins : List (Addr × Obj)) (σ3 : Lo) (σ : L2.St) (H : Hp) (M : Mp) (Q : List D → Mp → Prop) (us : List Value) (s' : Shared) : Prop :=
  ∃ ds M' vs H', I3 C X M0 pins σ3 M' σ H' s' ∧ Vals vs us ∧ RDs C H' ds vs ∧ Stp H M H' M' ∧ Q ds M'
def TP3 (C : Ct) (X : Cx) (M0 : Mp) (pins : List (Addr × Obj)) (σ3 : Lo) (σ : L2.St) (H : Hp) (M : Mp) (k : Bool → Mp → Prop) (b : Bool) (s' : Shared) : Prop :=
  ∃ M' H', I3 C X M0 pins σ3 M' σ H' s' ∧ Stp H M H' M' ∧ k b M'
section
variable {C : Ct} {X : Cx} {M0 M M' : Mp} {pins : List (Addr × Obj)} {σ3 : Lo} {σ : L2.St} {H H' : Hp} {s s' : Shared}
theorem I3.to (I : I3 C X M0 pins σ3 M σ H s) (J : Inv X pins σ H' s') (r : RM C H' M') (t : Stp H M H' M') : I3 C X M0 pins σ3 M' σ H' s' :=
  ⟨J, I.lo.keep (t.tupK I.hp), r, I.st.trans t⟩
theorem I3.same (I : I3 C X M0 pins σ3 M σ H s) (J : Inv X pins σ H s') : I3 C X M0 pins σ3 M σ H s' := ⟨J, I.lo, I.hp, I.st⟩
/-- a new object, told or not -/
theorem upd_stp {p : Addr} {o : HO} (hp : H p = none) : Stp H M (upd H p o) M := ⟨fun a u e n => ⟨by rw [upd_ne (ne_of_none e hp)]; exact e, n⟩, fun a ob u e => by rw [upd_ne (ne_of_none e hp)]; exact e⟩
theorem mset_stp {p : Addr} {o : HO} {m : MO} (hp : H p = none) : Stp H M (upd H p o) (mset M p m) := ⟨fun a u e n => by
  have ne : a ≠ p := ne_of_none e hp
  exact ⟨by rw [upd_ne ne]; exact e, by rw [mset_ne ne]; exact n⟩, fun a ob u e => by rw [upd_ne (ne_of_none e hp)]; exact e⟩
theorem RM.free (r : RM C H M) {p : Addr} (hp : H p = none) : M p = none := by
  cases e : M p with
  | none => rfl
  | some o =>
    obtain ⟨u, hu, _⟩ := r p o e
    rw [hp] at hu; cases hu
theorem tupK_new {p : Addr} {o : HO} (hp : H p = none) : TupK H (upd H p o) := ⟨fun a xs h => by
  rw [upd_ne (ne_of_none h hp)]; exact h, fun a ob xs h => by rw [upd_ne (ne_of_none h hp)]; exact h⟩
theorem RM.new0 (r : RM C H M) {p : Addr} {o : HO} (hp : H p = none) : RM C (upd H p o) M := fun a m e => by
  obtain ⟨u, hu, ro⟩ := r a m e
  exact ⟨u, by rw [upd_ne (ne_of_none hu hp)]; exact hu, ro.keep (tupK_new hp)⟩
theorem RM.new (r : RM C H M) {p : Addr} {o : HO} {m : MO} (hp : H p = none) (ro : RO C (upd H p o) p m o) : RM C (upd H p o) (mset M p m) := fun a m' e => by
  by_cases h : a = p
  · subst h
    rw [mset_same] at e; cases e
    exact ⟨o, upd_same, ro⟩
  · rw [mset_ne h] at e
    obtain ⟨u, hu, q⟩ := r a m' e
    exact ⟨u, by rw [upd_ne h]; exact hu, q.keep (tupK_new hp)⟩
/-- an object that is told is written: it was no tuple, nothing frozen -/
theorem tupK_set {p : Addr} {o u : HO} (hu : H p = some u) (h1 : ∀ xs, u ≠ .tup xs) (h2 : ∀ ob x, u ≠ .frz ob x) : TupK H (upd H p o) := ⟨fun a xs h => by
  have ne : a ≠ p := by rintro rfl; rw [h] at hu; cases hu; exact h1 _ rfl
  rw [upd_ne ne]; exact h, fun a ob xs h => by
  have ne : a ≠ p := by rintro rfl; rw [h] at hu; cases hu; exact h2 _ _ rfl
  rw [upd_ne ne]; exact h⟩
def MO.free : MO → Prop
  | .lck _ => False
  | .lkT _ => False
  | _ => True
theorem RM.nofrz (r : RM C H M) {p : Addr} {m : MO} (hm : M p = some m) (hl : m.free) : ∃ u, H p = some u ∧ (∀ xs, u ≠ .tup xs) ∧ ∀ ob x, u ≠ .frz ob x := by
  obtain ⟨u, hu, ro⟩ := r p m hm
  refine ⟨u, hu, fun xs e => ?_, fun ob x e => ?_⟩
  · rw [e] at ro; exact ro.notup
  · rw [e] at ro
    cases m with
    | lck kvs => exact hl
    | lkT kvs => exact hl
    | dct kvs => obtain ⟨ks, e, _⟩ : RDct C H kvs _ := ro; cases e
    | dcT kvs => exact RDT.nofrz ro
    | _ => exact ro
theorem RM.tupKw (r : RM C H M) {p : Addr} {m : MO} {o : HO} (hm : M p = some m) (hl : m.free := by trivial) : TupK H (upd H p o) := by
  obtain ⟨u, hu, h1, h2⟩ := r.nofrz hm hl
  exact tupK_set hu h1 h2
theorem RM.write (r : RM C H M) {p : Addr} {m m' : MO} {o : HO} (hm : M p = some m) (ro : RO C (upd H p o) p m' o) (hl : m.free := by trivial) : RM C (upd H p o) (mset M p m') := fun a m2 e => by
  by_cases h : a = p
  · subst h
    rw [mset_same] at e; cases e
    exact ⟨o, upd_same, ro⟩
  · rw [mset_ne h] at e
    obtain ⟨u, hu, q⟩ := r a m2 e
    exact ⟨u, by rw [upd_ne h]; exact hu, q.keep (r.tupKw hm hl)⟩
theorem write_stp (r : RM C H M) {p : Addr} {m m' : MO} {o : HO} (hm : M p = some m) (hl : m.free := by trivial) : Stp H M (upd H p o) (mset M p m') := ⟨fun a u e n => by
  have ne : a ≠ p := by rintro rfl; rw [hm] at n; cases n
  exact ⟨by rw [upd_ne ne]; exact e, by rw [mset_ne ne]; exact n⟩, (r.tupKw hm hl).2⟩
theorem RM.lst (r : RM C H M) {a : Addr} {ds : List D} (h : M a = some (.lst ds)) : ∃ xs, H a = some (.lst xs) ∧ RDs C H ds xs := by
  obtain ⟨u, hu, ro⟩ := r a _ h
  cases u with
  | lst xs => exact ⟨xs, hu, ro⟩
  | _ => exact ro.elim
theorem RM.dct (r : RM C H M) {a : Addr} {kvs : List (D × D)} (h : M a = some (.dct kvs)) : ∃ ks : List (Key × V), H a = some (.dK ks) ∧ Paired (fun (p : D × D) (q : Key × V) => KRel p.1 q.1 ∧ RD C H p.2 q.2) kvs ks := by
  obtain ⟨u, hu, ro⟩ := r a _ h
  obtain ⟨ks, e, p⟩ : RDct C H kvs u := ro
  subst e
  exact ⟨ks, hu, p⟩
theorem RM.lck (r : RM C H M) {a : Addr} {kvs : List (D × D)} (h : M a = some (.lck kvs)) : ∃ (ob : Obj) (ks : List (Key × V)), H a = some (.frz ob (.dK ks)) ∧ Paired (fun (p : D × D) (q : Key × V) => KRel p.1 q.1 ∧ RD C H p.2 q.2) kvs ks := by
  obtain ⟨u, hu, ro⟩ := r a _ h
  cases u with
  | frz ob u =>
    obtain ⟨ks, e, p⟩ : RDct C H kvs u := ro
    subst e
    exact ⟨ob, ks, hu, p⟩
  | _ => exact ro.elim
theorem RM.dcT (r : RM C H M) {a : Addr} {kvs : List (D × D)} (h : M a = some (.dcT kvs)) : (a == sysModules) = false ∧ kvs.length ≤ sizeLine ∧ ∃ xs, H a = some (nD C.P C.w a xs) ∧ (xs.map (·.1)).Nodup ∧ PTd C H kvs xs := by
  obtain ⟨u, hu, ro⟩ := r a _ h
  obtain ⟨h1, h2, xs, e, p⟩ : RDT C H a kvs u := ro
  subst e
  exact ⟨h1, h2, xs, hu, p⟩
theorem RM.lkT (r : RM C H M) {a : Addr} {kvs : List (D × D)} (h : M a = some (.lkT kvs)) : (a == sysModules) = false ∧ kvs.length ≤ sizeLine ∧ ∃ (ob : Obj) (xs : List (NestedKey × Addr × V)), H a = some (.frz ob (nD C.P C.w a xs)) ∧ (xs.map (·.1)).Nodup ∧ PTd C H kvs xs := by
  obtain ⟨u, hu, ro⟩ := r a _ h
  cases u with
  | frz ob u =>
    obtain ⟨h1, h2, xs, e, p⟩ : RDT C H a kvs u := ro
    subst e
    exact ⟨h1, h2, ob, xs, hu, p⟩
  | _ => exact ro.elim
theorem RM.ins (r : RM C H M) {a : Addr} {c : Nat} {fs : List (Str × D)} (h : M a = some (.ins c fs)) : ∃ dx gs, H a = some (.ins (C.ca c) dx gs) ∧ Paired (fun (p : Str × D) (q : Str × V) => p.1 = q.1 ∧ RD C H p.2 q.2) fs gs := by
  obtain ⟨u, hu, ro⟩ := r a _ h
  cases u with
  | ins B dx gs =>
    obtain ⟨e, p⟩ := ro
    exact ⟨dx, gs, by rw [e]; exact hu, p⟩
  | _ => exact ro.elim
end
end L3
end
section
set_option autoImplicit false
set_option linter.all false
set_option maxRecDepth 100000
/-! L3: operations by values -/
namespace L3
open PySem L2

section
variable {C : Ct} {H : Hp} {h : Heap}
/-! ### keys -/
mutual
theorem RD.is (ok : HOk C.P C.w H h) (kin : C.K.In h) : ∀ {d : D} {v : V} {u : Value}, RD C H d v → RelV v u → d.pure = true → NestedIs h d.key u
  | .non, v, u, r, q, _ => by rw [show v = .non from r] at q; cases q; exact .none
  | .bl b, v, u, r, q, _ => by rw [show v = .bl b from r] at q; cases q; exact .bool rfl
  | .int i, v, u, r, q, _ => by rw [show v = .int i from r] at q; obtain ⟨t, rfl⟩ := q; exact .int i t
  | .str x, v, u, r, q, _ => by rw [show v = .str x from r] at q; obtain ⟨t, rfl⟩ := q; exact .text x t
  | .tup ds, v, u, r, q, p => by
    obtain ⟨a, xs, rfl, hq, hs⟩ := r
    cases q
    rcases hq with hq | (hq | ⟨_, hq⟩) | ⟨o, its, n, hk, hc, hd, hz, rv⟩
    · obtain ⟨z, its, rv, o, ho, hc, n, hd⟩ := (show Rd H a (.tup xs) from .inl hq).ok ok
      exact .tup ho hc hd (by simpa using RDs.is ok kin hs rv p)
    · cases hq
    · cases hq
    · exact .tup (kin a o hk) hc hd (RDs.is ok kin hs rv p)
  | .kt ds, v, u, r, q, p => by
    obtain ⟨a, xs, rfl, hq, hs⟩ := r
    cases q
    rcases hq with (hq | ⟨_, hq⟩) | ⟨o, its, n, hk, hc, hd, hz, rv⟩
    · cases hq
    · cases hq
    · exact .tup (kin a o hk) hc hd (RDs.is ok kin hs rv p)
  | .ref _, _, _, _, _, p => absurd p Bool.false_ne_true
  | .exn _ _, _, _, _, _, p => absurd p Bool.false_ne_true
  | .kl _, _, _, _, _, p => absurd p Bool.false_ne_true
theorem RDs.is (ok : HOk C.P C.w H h) (kin : C.K.In h) : ∀ {ds : List D} {xs : List V} {us : List Value}, RDs C H ds xs → Vals xs us → D.pures ds = true → NestedAll h (D.keys ds) us
  | [], xs, us, r, q, _ => by rw [show xs = [] from r] at q; cases q; exact .nil
  | d :: ds, xs, us, r, q, p => by
    obtain ⟨x, l, rfl, h1, h2⟩ := r
    cases q with
    | cons q1 q2 =>
      have p' : (d.pure && D.pures ds) = true := p
      rw [Bool.and_eq_true] at p'
      exact .cons (RD.is ok kin h1 q1 p'.1) (RDs.is ok kin h2 q2 p'.2)
end
/-! ### data -/
end

open SeqAt in
theorem rcKey {A : Around} {s : Shared} : ∀ (x y : NestedKey) (a b : Value), NestedIs s.heap x a → NestedIs s.heap y b → A.units + min x.depth y.depth < cLine → RcAt A s a b (NestedKey.beq x y) := by
  intro x y a b ra rb hu
  cases ra with
  | none => cases rb with
    | none => exact RcAt.none_none
    | @bool d i e => exact RcAt.none_bool d
    | int y u => exact RcAt.none_int y u
    | text y u => exact RcAt.none_str y u
    | tup k1 k2 k3 k4 => exact RcAt.none_tuple ⟨_, k1, k2, _, k3⟩ (room_here hu)
  | @bool c i e =>
    subst e
    cases rb with
    | none => exact RcAt.bool_none c
    | @bool d i e =>
      subst e
      have : NestedKey.beq (.num (if c = true then 1 else 0)) (.num (if d = true then 1 else 0)) = (c == d) := by cases c <;> cases d <;> rfl
      rw [this]; exact RcAt.bool_bool c d
    | int y u =>
      have : NestedKey.beq (.num (if c = true then 1 else 0)) (.num y) = ((if c then 1 else 0) == y) := by (simp only [NestedKey.beq]; rw [Bool.eq_iff_iff]; simp)
      rw [this]; exact RcAt.bool_int c y u
    | text y u => exact RcAt.bool_str c y u
    | tup k1 k2 k3 k4 => exact RcAt.bool_tuple c ⟨_, k1, k2, _, k3⟩ (room_here hu)
  | int x t => cases rb with
    | none => exact RcAt.int_none x t
    | @bool d i e =>
      subst e
      have : NestedKey.beq (.num x) (.num (if d = true then 1 else 0)) = (x == (if d then 1 else 0)) := by (simp only [NestedKey.beq]; rw [Bool.eq_iff_iff]; simp)
      rw [this]; exact RcAt.int_bool x t d
    | int y u =>
      have : NestedKey.beq (.num x) (.num y) = (x == y) := by (simp only [NestedKey.beq]; rw [Bool.eq_iff_iff]; simp)
      rw [this]; exact RcAt.int_int x t y u
    | text y u => exact RcAt.int_str x t y u
    | tup k1 k2 k3 k4 => exact RcAt.int_tuple x t ⟨_, k1, k2, _, k3⟩ (room_here hu)
  | text x t => cases rb with
    | none => exact RcAt.str_none x t
    | @bool d i e => exact RcAt.str_bool x t d
    | int y u => exact RcAt.str_int x t y u
    | text y u =>
      have : NestedKey.beq (.text x) (.text y) = (x == y) := by (simp only [NestedKey.beq]; rw [Bool.eq_iff_iff]; simp)
      rw [this]; exact RcAt.str_str x t y u
    | tup k1 k2 k3 k4 => exact RcAt.str_tuple x t ⟨_, k1, k2, _, k3⟩ (room_here hu)
  | @tup l o vs n xs h1 h2 h3 h4 =>
    have hl : s.heap.IsTuple l vs := ⟨_, h1, h2, _, h3⟩
    cases rb with
    | none => exact RcAt.tuple_none hl (room_here hu)
    | @bool d i e => exact RcAt.tuple_bool d hl (room_here hu)
    | int y u => exact RcAt.tuple_int y u hl (room_here hu)
    | text y u => exact RcAt.tuple_str y u hl (room_here hu)
    | @tup l' o' vs' n' ys k1 k2 k3 k4 =>
      have hl' : s.heap.IsTuple l' vs' := ⟨_, k1, k2, _, k3⟩
      have n1 : vs.size = xs.length := by simpa using NestedAll.length _ _ h4
      have n2 : vs'.size = ys.length := by simpa using NestedAll.length _ _ k4
      show RcAt A s (.ref l) (.ref l') (NestedKey.beqAll xs ys)
      rw [← beqAll_eq xs ys, ← n1, ← n2]
      refine RcAt.tuples hl hl' (room_here hu) fun j j1 j2 => ?_
      have := eqAt_keys xs ys A.in1 s vs.toList vs'.toList h4 k4 (room_in hu) j (by simpa using j1) (by simpa using j2)
      simpa using this
open SeqAt in
theorem rcNeKey {A : Around} {s : Shared} : ∀ (x y : NestedKey) (a b : Value), NestedIs s.heap x a → NestedIs s.heap y b → A.units + min x.depth y.depth < cLine → RcNeAt A s a b (!NestedKey.beq x y) := by
  intro x y a b ra rb hu
  cases ra with
  | none => cases rb with
    | none => exact RcNeAt.none_none
    | @bool d i e => exact RcNeAt.none_bool d
    | int y u => exact RcNeAt.none_int y u
    | text y u => exact RcNeAt.none_str y u
    | tup k1 k2 k3 k4 => exact RcNeAt.none_tuple ⟨_, k1, k2, _, k3⟩ (room_here hu)
  | @bool c i e =>
    subst e
    cases rb with
    | none => exact RcNeAt.bool_none c
    | @bool d i e =>
      subst e
      have : NestedKey.beq (.num (if c = true then 1 else 0)) (.num (if d = true then 1 else 0)) = (c == d) := by cases c <;> cases d <;> rfl
      rw [this]; exact RcNeAt.bool_bool c d
    | int y u =>
      have : NestedKey.beq (.num (if c = true then 1 else 0)) (.num y) = ((if c then 1 else 0) == y) := by (simp only [NestedKey.beq]; rw [Bool.eq_iff_iff]; simp)
      rw [this]; exact RcNeAt.bool_int c y u
    | text y u => exact RcNeAt.bool_str c y u
    | tup k1 k2 k3 k4 => exact RcNeAt.bool_tuple c ⟨_, k1, k2, _, k3⟩ (room_here hu)
  | int x t => cases rb with
    | none => exact RcNeAt.int_none x t
    | @bool d i e =>
      subst e
      have : NestedKey.beq (.num x) (.num (if d = true then 1 else 0)) = (x == (if d then 1 else 0)) := by (simp only [NestedKey.beq]; rw [Bool.eq_iff_iff]; simp)
      rw [this]; exact RcNeAt.int_bool x t d
    | int y u =>
      have : NestedKey.beq (.num x) (.num y) = (x == y) := by (simp only [NestedKey.beq]; rw [Bool.eq_iff_iff]; simp)
      rw [this]; exact RcNeAt.int_int x t y u
    | text y u => exact RcNeAt.int_str x t y u
    | tup k1 k2 k3 k4 => exact RcNeAt.int_tuple x t ⟨_, k1, k2, _, k3⟩ (room_here hu)
  | text x t => cases rb with
    | none => exact RcNeAt.str_none x t
    | @bool d i e => exact RcNeAt.str_bool x t d
    | int y u => exact RcNeAt.str_int x t y u
    | text y u =>
      have : NestedKey.beq (.text x) (.text y) = (x == y) := by (simp only [NestedKey.beq]; rw [Bool.eq_iff_iff]; simp)
      rw [this]; exact RcNeAt.str_str x t y u
    | tup k1 k2 k3 k4 => exact RcNeAt.str_tuple x t ⟨_, k1, k2, _, k3⟩ (room_here hu)
  | @tup l o vs n xs h1 h2 h3 h4 =>
    have hl : s.heap.IsTuple l vs := ⟨_, h1, h2, _, h3⟩
    cases rb with
    | none => exact RcNeAt.tuple_none hl (room_here hu)
    | @bool d i e => exact RcNeAt.tuple_bool d hl (room_here hu)
    | int y u => exact RcNeAt.tuple_int y u hl (room_here hu)
    | text y u => exact RcNeAt.tuple_str y u hl (room_here hu)
    | @tup l' o' vs' n' ys k1 k2 k3 k4 =>
      have hl' : s.heap.IsTuple l' vs' := ⟨_, k1, k2, _, k3⟩
      have n1 : vs.size = xs.length := by simpa using NestedAll.length _ _ h4
      have n2 : vs'.size = ys.length := by simpa using NestedAll.length _ _ k4
      show RcNeAt A s (.ref l) (.ref l') (!NestedKey.beqAll xs ys)
      rw [← beqAll_eq xs ys, ← n1, ← n2]
      refine RcNeAt.tuples hl hl' (room_here hu) fun j j1 j2 => ?_
      have := eqAt_keys xs ys A.in1 s vs.toList vs'.toList h4 k4 (room_in hu) j (by simpa using j1) (by simpa using j2)
      simpa using this

section
variable {ca : Nat → Addr} {X : Cx} {M0 M : Mp} {pins : List (Addr × Obj)} {σ3 : Lo} {σ : L2.St} {H : Hp} {s : Shared}
/-- the context's own -/
abbrev ct (X : Cx) (ca : Nat → Addr) : Ct := ⟨X.prog, X.w, X.K, ca⟩
/-- what a rule by values is to reach -/
def QV (C : Ct) (H : Hp) (M : Mp) (Q : Post) : VK := fun v H' => ∃ d M', RM C H' M' ∧ Stp H M H' M' ∧ RD C H' d v ∧ Q d M'
theorem ep_of {Q : Post} (I : I3 (ct X ca) X M0 pins σ3 M σ H s) {u : Value} {s' : Shared} (h : EP X pins σ (QV (ct X ca) H M Q) u s') : EP3 (ct X ca) X M0 pins σ3 σ H M Q u s' := by
  obtain ⟨v, H', J, r, d, M', rm, st, rd, q⟩ := h
  exact ⟨d, M', v, H', I.to J rm st, r, rd, st, q⟩
theorem ep_now {Q : Post} (I : I3 (ct X ca) X M0 pins σ3 M σ H s) {s' : Shared} (J : Inv X pins σ H s') {u : Value} {v : V} {d : D} (r : RelV v u) (rd : RD (ct X ca) H d v) (q : Q d M) : EP3 (ct X ca) X M0 pins σ3 σ H M Q u s' :=
  ⟨d, M, v, H, I.same J, r, rd, Stp.refl, q⟩
theorem ep_after {Q : Post} {M1 : Mp} {H1 : Hp} {u : Value} {s' : Shared} (st : Stp H M H1 M1) (h : EP3 (ct X ca) X M0 pins σ3 σ H1 M1 Q u s') : EP3 (ct X ca) X M0 pins σ3 σ H M Q u s' := by
  obtain ⟨d, M', v, H', I, r, rd, st', q⟩ := h
  exact ⟨d, M', v, H', I, r, rd, st.trans st', q⟩
theorem qv_now {C : Ct} {Q : Post} {v : V} {d : D} (r : RM C H M) (rd : RD C H d v) (q : Q d M) : QV C H M Q v H := ⟨d, M, r, Stp.refl, rd, q⟩
theorem qv_int {C : Ct} {Q : Post} {i : Int} (r : RM C H M) (q : Q (.int i) M) : QV C H M Q (.int i) H := ⟨.int i, M, r, Stp.refl, rfl, q⟩
theorem qv_bl {C : Ct} {Q : Post} {i : Bool} (r : RM C H M) (q : Q (.bl i) M) : QV C H M Q (.bl i) H := ⟨.bl i, M, r, Stp.refl, rfl, q⟩
theorem qv_str {C : Ct} {Q : Post} {i : Str} (r : RM C H M) (q : Q (.str i) M) : QV C H M Q (.str i) H := ⟨.str i, M, r, Stp.refl, rfl, q⟩
theorem qv_non {C : Ct} {Q : Post} (r : RM C H M) (q : Q .non M) : QV C H M Q .non H := ⟨.non, M, r, Stp.refl, rfl, q⟩
theorem qv_new {C : Ct} {Q : Post} {p : Addr} {o : HO} {m : MO} (r : RM C H M) (hp : H p = none) (ro : RO C H p m o) (q : wpNew M m Q) : QV C H M Q (.ref p) (upd H p o) :=
  ⟨.ref p, mset M p m, r.new hp (ro.keep (tupK_new hp)), mset_stp hp, rfl, q p (r.free hp)⟩
/-- a new tuple -/
theorem qv_tup {C : Ct} {Q : Post} {p : Addr} {xs : List V} {ds : List D} (r : RM C H M) (hp : H p = none) (rd : RDs C H ds xs) (q : Q (.tup ds) M) : QV C H M Q (.ref p) (upd H p (.tup xs)) :=
  ⟨.tup ds, M, r.new0 hp, upd_stp hp, ⟨p, xs, rfl, .inl upd_same, RDs.keep (tupK_new hp) rd⟩, q⟩

/-- a two-place operation by values -/
def Op3 (ca : Nat → Addr) (X : Cx) (f : Value → Value → Sem Value) (w : D → D → Mp → Post → Prop) : Prop :=
  ∀ (pins : List (Addr × Obj)) (s : Shared) (σ : L2.St) (H : Hp) (M0 M : Mp) (σ3 : Lo) (x y : D) (a b : V) (v u : Value) (Q : Post), I3 (ct X ca) X M0 pins σ3 M σ H s → RelV a v → RelV b u → RD (ct X ca) H x a → RD (ct X ca) H y b → w x y M Q →
    wpAny (model X.prog X.w) X.A (f v u) (EP3 (ct X ca) X M0 pins σ3 σ H M Q) X.xe s
theorem op3_of {f : Value → Value → Sem Value} {w : D → D → Mp → Post → Prop} {r : R2} (ho : OpR X f r)
    (h : ∀ (H : Hp) (M : Mp) (x y : D) (a b : V) (Q : Post), RM (ct X ca) H M → RD (ct X ca) H x a → RD (ct X ca) H y b → w x y M Q → r a b H (QV (ct X ca) H M Q)) : Op3 ca X f w :=
  fun pins s σ H M0 M σ3 x y a b v u Q I ra rb hx hy hw => thn (ho pins s σ H a b v u _ I.inv ra rb (h H M x y a b Q I.hp hx hy hw)) fun _ _ q => ep_of I q

theorem o_sub : Op3 ca X (binaryOp .Sub) (wpBin .sub) := op3_of op_sub fun H M x y a b Q r hx hy h => by
  cases x with
  | int i => cases y with
    | int j => exact ⟨i, j, hx, hy, qv_int r h⟩
    | _ => exact h.elim
  | _ => exact h.elim
theorem o_mulI : Op3 ca X (binaryOp .Mult) (fun x y M Q => (∀ z, x ≠ .str z) ∧ wpBin .mul x y M Q) := op3_of op_mul fun H M x y a b Q r hx hy ⟨hz, h⟩ => by
  cases x with
  | int i => cases y with
    | int j => exact ⟨i, j, hx, hy, h.1, qv_int r h.2⟩
    | _ => exact h.elim
  | str z => exact absurd rfl (hz z)
  | _ => exact h.elim
theorem o_mul : Op3 ca X (binaryOp .Mult) (wpBin .mul) := by
  intro pins s σ H M0 M σ3 x y a b v u Q I ra rb hx hy h
  cases x with
  | str z => cases y with
    | int n =>
      have e1 : a = .str z := hx
      have e2 : b = .int n := hy
      subst e1 e2
      obtain ⟨t, rfl⟩ := ra
      obtain ⟨t', rfl⟩ := rb
      exact SB.mul h.1 fun t2 k => ep_now (v := .str (Txt.mul z n)) (d := .str (Txt.mul z n)) I (I.inv.tok k) ⟨_, rfl⟩ rfl h.2
    | _ => exact h.elim
  | _ => exact o_mulI pins s σ H M0 M σ3 _ y a b v u Q I ra rb hx hy ⟨(fun _ e => nomatch e), h⟩
theorem o_fdiv : Op3 ca X (binaryOp .FloorDiv) (wpBin .fdiv) := op3_of op_fdiv fun H M x y a b Q r hx hy h => by
  cases x with
  | int i => cases y with
    | int j => exact ⟨i, j, hx, hy, h.1, qv_int r h.2⟩
    | _ => exact h.elim
  | _ => exact h.elim
theorem o_mod : Op3 ca X (binaryOp .Mod) (wpBin .mod) := op3_of op_mod fun H M x y a b Q r hx hy h => by
  cases x with
  | int i => cases y with
    | int j => exact ⟨i, j, hx, hy, h.1, qv_int r h.2⟩
    | _ => exact h.elim
  | _ => exact h.elim
theorem o_pow : Op3 ca X (binaryOp .Pow) (wpBin .pow) := op3_of op_pow fun H M x y a b Q r hx hy h => by
  cases x with
  | int i => cases y with
    | int j => exact ⟨i, j, hx, hy, h.1, qv_int r h.2⟩
    | _ => exact h.elim
  | _ => exact h.elim
theorem o_shl : Op3 ca X (binaryOp .LShift) (wpBin .shl) := op3_of op_shl fun H M x y a b Q r hx hy h => by
  cases x with
  | int i => cases y with
    | int j => exact ⟨i, j, hx, hy, h.1, qv_int r h.2⟩
    | _ => exact h.elim
  | _ => exact h.elim
theorem o_shr : Op3 ca X (binaryOp .RShift) (wpBin .shr) := op3_of op_shr fun H M x y a b Q r hx hy h => by
  cases x with
  | int i => cases y with
    | int j => exact ⟨i, j, hx, hy, h.1, qv_int r h.2⟩
    | _ => exact h.elim
  | _ => exact h.elim
/-- the ways of + -/
theorem op_add3 : OpR X (binaryOp .Add) (fun x y H Q => rI0 (fun i j => .int (i + j)) x y H Q ∨ (∃ i j, x = .str i ∧ y = .str j ∧ i.length + j.length ≤ sizeLine ∧ Q (.str (i ++ j)) H) ∨ rCatA X.K x y H Q ∨ rCat x y H Q) :=
  OpR.or op_add (OpR.or op_add_str (OpR.or op_catA op_cat))
theorem o_add : Op3 ca X (binaryOp .Add) (wpBin .add) := op3_of op_add3 fun H M x y a b Q r hx hy h => by
  cases x with
  | int i => cases y with
    | int j => exact .inl ⟨i, j, hx, hy, qv_int r h⟩
    | _ => exact h.elim
  | str i => cases y with
    | str j => exact .inr (.inl ⟨i, j, hx, hy, h.1, qv_str r h.2⟩)
    | _ => exact h.elim
  | tup ds => cases y with
    | tup es =>
      obtain ⟨p, xs, rfl, h1, h2⟩ := hx
      obtain ⟨q, ys, rfl, h3, h4⟩ := hy
      refine .inr (.inr (.inl ⟨p, q, xs, ys, rfl, rfl, h1.sq, h3.sq, by rw [← h2.length, ← h4.length]; exact h.1, fun e => ?_, fun e1 e2 => ?_, fun _ _ n hn => ?_⟩))
      · subst e
        cases ds with
        | nil => exact qv_now (d := .tup es) r ⟨q, ys, rfl, h3, h4⟩ h.2
        | cons d ds => obtain ⟨_, _, e, _⟩ := h2; cases e
      · subst e2
        cases es with
        | nil =>
          have h5 : Q (.tup (ds ++ [])) M := h.2
          rw [List.append_nil] at h5
          exact qv_now (d := .tup ds) r ⟨p, xs, rfl, h1, h2⟩ h5
        | cons d es => obtain ⟨_, _, e, _⟩ := h4; cases e
      · exact qv_tup r hn (RDs.append h2 h4) h.2
    | _ => exact h.elim
  | ref p => cases y with
    | ref q =>
      have h' : (match M p, M q with | some (.lst xs), some (.lst ys) => xs.length + ys.length ≤ sizeLine ∧ wpNew M (.lst (xs ++ ys)) Q | _, _ => False) := h
      cases e1 : M p with
      | none => rw [e1] at h'; exact h'.elim
      | some o1 => cases e2 : M q with
        | none => rw [e1, e2] at h'; cases o1 <;> exact h'.elim
        | some o2 =>
          rw [e1, e2] at h'
          cases o1 with
          | lst ds => cases o2 with
            | lst es =>
              obtain ⟨xs, g1, g2⟩ := r.lst e1
              obtain ⟨ys, g3, g4⟩ := r.lst e2
              exact .inr (.inr (.inr ⟨p, q, xs, ys, hx, hy, g1, g3, by rw [← g2.length, ← g4.length]; exact h'.1, fun n hn => qv_new r hn (m := .lst (ds ++ es)) (RDs.append g2 g4) h'.2⟩))
            | _ => exact h'.elim
          | _ => cases o2 <;> exact h'.elim
    | _ => exact h.elim
  | _ => exact h.elim
def bop : BOp → Operator
  | .add => .Add
  | .sub => .Sub
  | .mul => .Mult
  | .fdiv => .FloorDiv
  | .mod => .Mod
  | .pow => .Pow
  | .shl => .LShift
  | .shr => .RShift
theorem o_bin (o : BOp) : Op3 ca X (binaryOp (bop o)) (wpBin o) := by
  cases o with
  | add => exact o_add
  | sub => exact o_sub
  | mul => exact o_mul
  | fdiv => exact o_fdiv
  | mod => exact o_mod
  | pow => exact o_pow
  | shl => exact o_shl
  | shr => exact o_shr
/-- x op= y of a name: + and - of ints, + of texts, // of ints .. (no list, which would be changed in place) -/
theorem iop_all3 : OpR X (inplaceOp .Add) (fun x y H Q => rI0 (fun i j => .int (i + j)) x y H Q ∨ (∃ i j, x = .str i ∧ y = .str j ∧ i.length + j.length ≤ sizeLine ∧ Q (.str (i ++ j)) H)) := OpR.or iop_add iop_add_str
theorem o_inp (o : BOp) : Op3 ca X (inplaceOp (bop o)) (wpInp o) := by
  cases o with
  | add =>
    refine op3_of iop_all3 fun H M x y a b Q r hx hy h => ?_
    cases x with
    | int i => cases y with
      | int j => exact .inl ⟨i, j, hx, hy, qv_int r h⟩
      | _ => exact h.elim
    | str i => cases y with
      | str j => exact .inr ⟨i, j, hx, hy, h.1, qv_str r h.2⟩
      | _ => exact h.elim
    | _ => exact h.elim
  | sub =>
    refine op3_of iop_sub fun H M x y a b Q r hx hy h => ?_
    cases x with
    | int i => cases y with
      | int j => exact ⟨i, j, hx, hy, qv_int r h⟩
      | _ => exact h.elim
    | _ => exact h.elim
  | mul =>
    refine op3_of iop_mul fun H M x y a b Q r hx hy h => ?_
    cases x with
    | int i => cases y with
      | int j => exact ⟨i, j, hx, hy, h.1, qv_int r h.2⟩
      | _ => exact h.elim
    | _ => exact h.elim
  | fdiv =>
    refine op3_of iop_fdiv fun H M x y a b Q r hx hy h => ?_
    cases x with
    | int i => cases y with
      | int j => exact ⟨i, j, hx, hy, h.1, qv_int r h.2⟩
      | _ => exact h.elim
    | _ => exact h.elim
  | _ =>
    intro pins s σ H M0 M σ3 x y a b v u Q I ra rb hx hy h
    cases x <;> cases y <;> exact False.elim h
end
end L3
end
section
set_option autoImplicit false
set_option linter.all false
set_option maxRecDepth 100000
/-! L3: dicts of ints and texts -/
namespace L3
open PySem L2 PyProof.Rows

abbrev PD (C : Ct) (H : Hp) (kvs : List (D × D)) (ks : List (Key × V)) : Prop := Paired (fun (p : D × D) (q : Key × V) => KRel p.1 q.1 ∧ RD C H p.2 q.2) kvs ks
theorem key_rd {C : Ct} {H : Hp} {x : D} {v : V} (r : RD C H x v) (h : x.hk1 = true) : ∃ k : Key, v = kV k ∧ KRel x k := by
  cases x with
  | int i => exact ⟨.inl i, r, rfl⟩
  | str z => exact ⟨.inr z, r, rfl⟩
  | _ => cases h
theorem rd_key {C : Ct} {H : Hp} {x : D} {k : Key} (h : KRel x k) : RD C H x (kV k) := by
  cases x with
  | int i => cases k with
    | inl j => exact (show kV (.inl j) = V.int i from by rw [show i = j from h]; rfl)
    | inr y => exact h.elim
  | str z => cases k with
    | inl j => exact h.elim
    | inr y => exact (show kV (.inr y) = V.str z from by rw [show z = y from h]; rfl)
  | _ => cases k <;> exact h.elim
theorem KRel.hk {x : D} {k : Key} (h : KRel x k) : x.hk1 = true := by
  cases x with
  | int i => rfl
  | str z => rfl
  | _ => cases k <;> exact h.elim
theorem eqv_key {x y : D} {a b : Key} (hx : KRel x a) (hy : KRel y b) : x.eqv y = decide (a = b) := by
  cases x with
  | int i => cases a with
    | inl i' =>
      cases hx
      cases y with
      | int j => cases b with
        | inl j' =>
          cases hy
          show NestedKey.beq (.num i) (.num j) = _
          simp [NestedKey.beq]
        | inr _ => exact hy.elim
      | str z => cases b with
        | inl _ => exact hy.elim
        | inr z' =>
          cases hy
          show NestedKey.beq (.num i) (.text z) = _
          simp [NestedKey.beq]
      | _ => cases b <;> exact hy.elim
    | inr _ => exact hx.elim
  | str s => cases a with
    | inl _ => exact hx.elim
    | inr s' =>
      cases hx
      cases y with
      | int j => cases b with
        | inl j' =>
          cases hy
          show NestedKey.beq (.text s) (.num j) = _
          simp [NestedKey.beq]
        | inr _ => exact hy.elim
      | str z => cases b with
        | inl _ => exact hy.elim
        | inr z' =>
          cases hy
          show NestedKey.beq (.text s) (.text z) = _
          simp only [NestedKey.beq]
          by_cases e : s = z
          · subst e; simp
          · simp [e]
      | _ => cases b <;> exact hy.elim
  | _ => cases a <;> exact hx.elim
section
variable {C : Ct} {H : Hp}
theorem dget_val {x : D} {k : Key} (hx : KRel x k) : ∀ {kvs : List (D × D)} {ks : List (Key × V)}, PD C H kvs ks → (∀ d, dget kvs x = some d → ∃ v, valV ks k = some v ∧ RD C H d v) ∧ dhas kvs x = (valV ks k).isSome
  | _, _, .nil => ⟨fun d e => (nomatch e), rfl⟩
  | _, _, .cons (a := p) (b := q) r t => by
    obtain ⟨h1, h2⟩ := dget_val hx t
    have e := eqv_key r.1 hx
    by_cases hk : q.1 = k
    · rw [decide_eq_true hk] at e
      refine ⟨fun d hd => ?_, ?_⟩
      · simp only [dget, List.find?_cons, e] at hd
        cases hd
        exact ⟨q.2, valV_pos hk, r.2⟩
      · simp only [dhas, List.any_cons, e, Bool.true_or]
        rw [valV_pos hk]
        rfl
    · rw [decide_eq_false hk] at e
      refine ⟨fun d hd => ?_, ?_⟩
      · simp only [dget, List.find?_cons, e] at hd
        rw [valV_neg hk]
        exact h1 d hd
      · simp only [dhas, List.any_cons, e, Bool.false_or]
        rw [valV_neg hk]
        exact h2
theorem pd_map {x d : D} {k : Key} {v : V} (hx : KRel x k) (rd : RD C H d v) : ∀ {kvs : List (D × D)} {ks : List (Key × V)}, PD C H kvs ks → PD C H (kvs.map fun p => if p.1.eqv x then (p.1, d) else p) (ks.map fun kv => if kv.1 = k then (kv.1, v) else kv)
  | _, _, .nil => .nil
  | _, _, .cons (a := p) (b := q) r t => by
    refine .cons ?_ (pd_map hx rd t)
    have e := eqv_key r.1 hx
    show KRel (if p.1.eqv x = true then (p.1, d) else p).1 (if q.1 = k then (q.1, v) else q).1 ∧ RD C H (if p.1.eqv x = true then (p.1, d) else p).2 (if q.1 = k then (q.1, v) else q).2
    by_cases hk : q.1 = k
    · rw [e, if_pos (decide_eq_true hk), if_pos hk]
      exact ⟨r.1, rd⟩
    · rw [e, if_neg (by rw [decide_eq_false hk]; exact Bool.false_ne_true), if_neg hk]
      exact r
theorem pd_app : ∀ {kvs : List (D × D)} {ks : List (Key × V)} {kvs' : List (D × D)} {ks' : List (Key × V)}, PD C H kvs ks → PD C H kvs' ks' → PD C H (kvs ++ kvs') (ks ++ ks')
  | _, _, _, _, .nil, h => h
  | _, _, _, _, .cons r t, h => .cons r (pd_app t h)
theorem pd_put {x d : D} {k : Key} {v : V} (hx : KRel x k) (rd : RD C H d v) {kvs : List (D × D)} {ks : List (Key × V)} (h : PD C H kvs ks) : PD C H (dput kvs x d) (putK ks k v) := by
  have hh := (dget_val hx h).2
  unfold dput putK
  rw [hh]
  have e : (ks.any fun kv => decide (kv.1 = k)) = (valV ks k).isSome := valV_any k ks
  rw [e]
  cases q : (valV ks k).isSome with
  | true => simp only [if_true]; exact pd_map hx rd h
  | false =>
    simp only [Bool.false_eq_true, if_false]
    exact pd_app h (.cons ⟨hx, rd⟩ .nil)
theorem PD.len {kvs : List (D × D)} {ks : List (Key × V)} (h : PD C H kvs ks) : kvs.length = ks.length := Paired.length h
theorem PD.keep {H' : Hp} (k : TupK H H') {kvs : List (D × D)} {ks : List (Key × V)} (h : PD C H kvs ks) : PD C H' kvs ks := Paired.mapP h fun _ _ q => ⟨q.1, q.2.keep k⟩
theorem pd_get {kvs : List (D × D)} {ks : List (Key × V)} (h : PD C H kvs ks) {i : Nat} {p : D × D} (e : kvs[i]? = some p) : ∃ q, ks[i]? = some q ∧ KRel p.1 q.1 ∧ RD C H p.2 q.2 := paired_get h e
theorem pd_keys : ∀ {kvs : List (D × D)} {ks : List (Key × V)}, PD C H kvs ks → RDs C H (kvs.map (·.1)) (ks.map fun q => kV q.1)
  | _, _, .nil => rfl
  | _, _, .cons r t => ⟨_, _, rfl, rd_key r.1, pd_keys t⟩
theorem pd_vals : ∀ {kvs : List (D × D)} {ks : List (Key × V)}, PD C H kvs ks → RDs C H (kvs.map (·.2)) (ks.map (·.2))
  | _, _, .nil => rfl
  | _, _, .cons r t => ⟨_, _, rfl, r.2, pd_vals t⟩
end
/-- the record's entries, by their values -/
theorem entries_vals {P : Program} {w : World} : ∀ {es : List DictEntry} {vs : List (Key × Value)} {ks : List (Key × V)}, Pairs (mixKind P w) es vs → KV ks vs → Vals (ks.map fun q => kV q.1) (es.map (·.key)) ∧ Vals (ks.map (·.2)) (es.map (·.val))
  | _, _, _, .nil, h => by cases h; exact ⟨.nil, .nil⟩
  | _, _, _, .cons h1 h2 t, h => by
    cases h with
    | cons r t2 =>
      obtain ⟨a, b⟩ := entries_vals t t2
      refine ⟨.cons ?_ a, .cons ?_ b⟩
      · show RelV (kV _) _
        rw [r.1]
        exact relV_key h1
      · show RelV _ (DictEntry.val _)
        rw [h2]
        exact r.2
section
variable {ca : Nat → Addr} {X : Cx} {M0 M : Mp} {pins : List (Addr × Obj)} {σ3 : Lo} {σ : L2.St} {H : Hp} {s : Shared}
theorem tail_dict {value slice : Expr} {o i : Value} {Q : Value → Shared → Prop} (hT : s.TypeIs o "dict") (hs : subscripted slice false o i = operate [o, i] (getItem o i)) (h : wpAny (model X.prog X.w) X.A (getItem o i) Q X.xe s) :
    wpAny (model X.prog X.w) X.A (subscriptTail value slice o i) Q X.xe s := by
  unfold subscriptTail
  refine wpAny_bind ?_
  rw [getitemInPython_of_ne hT.not_modules]
  refine wpAny_bind (wpAny_specialOf hT PySem.F.slot_dict_getitem.lookup ?_)
  have last : wpAny (model X.prog X.w) X.A (subscripted slice false o i) (fun r s' => wpAny (model X.prog X.w) X.A (letTemporaryGo value o r >>= fun _ => pure r) Q X.xe s') X.xe s := by
    rw [hs]
    exact wpAny_operating (thn h fun r s' q => wpAny_bind (wpAny_letTemporaryGo (wpAny_pure q)))
  first
    | exact wpAny_pure (wpAny_bind last)
    | exact wpAny_bind (wpAny_pure (wpAny_bind last))
    | exact wpAny_bind last
theorem I3.dictAt (I : I3 (ct X ca) X M0 pins σ3 M σ H s) {a : Addr} {kvs : List (D × D)} (h : M a = some (.dct kvs)) : ∃ ks : List (Key × V), H a = some (.dK ks) ∧ PD (ct X ca) H kvs ks ∧ s.TypeIs (.ref a) "dict" := by
  obtain ⟨ks, e, p⟩ := I.hp.dct h
  obtain ⟨_, _, vs, _, dd⟩ := dk_rd I.inv.hok (.inl e)
  exact ⟨ks, e, p, dd.typeIs⟩
theorem I3.lckAt (I : I3 (ct X ca) X M0 pins σ3 M σ H s) {a : Addr} {kvs : List (D × D)} (h : M a = some (.lck kvs)) : ∃ (ob : Obj) (ks : List (Key × V)), H a = some (.frz ob (.dK ks)) ∧ PD (ct X ca) H kvs ks ∧ s.TypeIs (.ref a) "dict" := by
  obtain ⟨ob, ks, e, p⟩ := I.hp.lck h
  obtain ⟨_, _, vs, _, dd⟩ := dk_rd I.inv.hok (.inr ⟨ob, e⟩)
  exact ⟨ob, ks, e, p, dd.typeIs⟩
end
end L3
end
section
set_option autoImplicit false
set_option linter.all false
set_option maxRecDepth 100000
/-! L3: dicts whose keys are tuples -/
namespace L3
open PySem L2 PyProof.Rows

section
variable {prog : Program} {w : World} {A : Around} {E : Value → Shared → Prop} {s : Shared} {d : Addr} {es : Array DictEntry} {ep : Nat}
theorem len_bodyR {Q : Value → Shared → Prop} (hd : (d == sysModules) = false) (hm : s.heap.DictRaw d es ep) (hfit : (es.size : Int) < 2 ^ 63)
    (h : Q (.int es.size (s.toks + 1)) { s with toks := s.toks + 1 + 1 }) : wpAny (model prog w) A (Builtin.«len» ⟨[.ref d], []⟩) (fun fin s' => ∃ r, fin = .done (.ret r) ∧ Q r s') E s := by
  unfold Builtin.«len»
  refine wpAny_bind (m := oneArg "len" _) (wpAny_pure ?_)
  refine wpAny_bind (m := callSpecial? (.ref d) (Str.ofString "__len__")) (wpAny_callSpecial?_slot (name := Str.ofString "__len__") hm.typeIs F.slot_dict_len
    (call_meetsIn F.slot_dict_len hm.typeIs F.entry_dict_len (F.args_dict_len_1 _) (meets_dict_len_raw d hd) ⟨es, ep, hm, ?_⟩))
  show wpAny _ _ _ _ _ { s with toks := s.toks + 1 }
  refine wpAny_bind (wpAny_holding (wpAny_pure ?_))
  refine wpAny_bind (wpAny_letGo ?_)
  show wpAny _ _ (if ((es.size : Nat) : Int) < 0 then _ else _) _ _ _
  rw [if_neg (by omega)]
  show wpAny _ _ (if ((es.size : Nat) : Int) ≥ 2 ^ 63 then _ else _) _ _ _
  rw [if_neg (by omega)]
  exact wpAny_bind (wpAny_mkInt (wpAny_pure ⟨_, rfl, h⟩))
theorem call_lenR {Q : Value → Shared → Prop} (hd : (d == sysModules) = false) (hm : s.heap.DictRaw d es ep) (hfit : (es.size : Int) < 2 ^ 63)
    (h : Q (.int es.size (s.toks + 1)) { s with toks := s.toks + 1 + 1 }) : wpAny (model prog w) A (call (.builtin "len") [.ref d]) Q E s :=
  Calls.call_function_entry kind_len plain_len entry_len (args_len1 _) (len_bodyR hd hm hfit h)
theorem truthy_dictR {Q : Bool → Shared → Prop} (hd : (d == sysModules) = false) (hm : s.heap.DictRaw d es ep) (hfit : (es.size : Int) < 2 ^ 63)
    (h : Q (!es.isEmpty) { s with toks := s.toks + 1 + 1 }) : wpAny (model prog w) A (PySem.truthy (.ref d)) Q E s := by
  have hne : ((es.size : Int) != 0) = !es.isEmpty := by
    have : es.isEmpty = decide (es.size = 0) := rfl
    rw [this]
    by_cases e : es.size = 0
    · simp [e]
    · have : ((es.size : Int) != 0) = true := bne_iff_ne.mpr (by omega)
      rw [this]; simp [e]
  have key : wpAny (model prog w) A (runValue (.builtin "len" ⟨[.ref d], []⟩)) (fun r s' => r = .int es.size (s.toks + 1) ∧ Q (!es.isEmpty) s') E s := by
    refine wpAny_runValue (codeAny_builtin entry_len ?_)
    rw [Around.under_plainId plain_len _]
    exact wpAny_mono (len_bodyR (Q := fun r s' => r = .int es.size (s.toks + 1) ∧ Q (!es.isEmpty) s') hd hm hfit ⟨rfl, h⟩)
      (fun fin s' h' => by obtain ⟨r, rfl, hq⟩ := h'; exact hq) fun _ _ e => e
  unfold PySem.truthy
  first
    | refine wpAny_bind (wpAny_callSpecial?_none (name := Str.ofString "__bool__") hm.typeIs noBool_dict ?_)
    | refine wpAny_bind (wpAny_pure (wpAny_bind (wpAny_callSpecial?_none (name := Str.ofString "__bool__") hm.typeIs noBool_dict ?_)))
  first
    | refine wpAny_bind (wpAny_specialOf (name := Str.ofString "__len__") hm.typeIs F.slot_dict_len.lookup ?_)
    | refine wpAny_bind (wpAny_pure (wpAny_bind (wpAny_specialOf (name := Str.ofString "__len__") hm.typeIs F.slot_dict_len.lookup ?_)))
  first
    | exact wpAny_bind (wpAny_mono key (fun r s' h' => by obtain ⟨rfl, hq⟩ := h'; exact wpAny_pure (hne ▸ hq)) fun _ _ e => e)
    | exact wpAny_bind (wpAny_pure (wpAny_bind (wpAny_mono key (fun r s' h' => by obtain ⟨rfl, hq⟩ := h'; exact wpAny_pure (hne ▸ hq)) fun _ _ e => e)))
end
theorem eqv_dec (x y : D) : x.eqv y = decide (x.key = y.key) := (NestedKey.decide_eq _ _).symm
theorem hkT_is {x : D} (h : x.hkT = true) : x.pure = true ∧ x.key.depth ≤ 8 := by
  cases x with
  | tup ds =>
    have h' : (D.pures ds && decide ((D.tup ds).key.depth ≤ 8)) = true := h
    rw [Bool.and_eq_true] at h'
    exact ⟨h'.1, of_decide_eq_true h'.2⟩
  | kt ds =>
    have h' : (D.pures ds && decide ((D.kt ds).key.depth ≤ 8)) = true := h
    rw [Bool.and_eq_true] at h'
    exact ⟨h'.1, of_decide_eq_true h'.2⟩
  | _ => cases h
theorem hkT_ref {C : Ct} {H : Hp} {x : D} {v : V} (r : RD C H x v) (h : x.hkT = true) : ∃ b, v = .ref b := by
  cases x with
  | tup ds => obtain ⟨a, xs, e, _⟩ := r; exact ⟨a, e⟩
  | kt ds => obtain ⟨a, xs, e, _⟩ := r; exact ⟨a, e⟩
  | _ => cases h
/-! ### entries -/
abbrev XU : List (NestedKey × Addr × V) → List (NestedKey × Addr × Value) → Prop := Paired fun p q => p.1 = q.1 ∧ p.2.1 = q.2.1 ∧ RelV p.2.2 q.2.2
def valN (xs : List (NestedKey × Addr × V)) (k : NestedKey) : Option V := (xs.find? fun x => decide (x.1 = k)).map (·.2.2)
def storN (xs : List (NestedKey × Addr × V)) (k : NestedKey) (b : Addr) (v : V) : List (NestedKey × Addr × V) :=
  if (valN xs k).isSome then xs.map (fun x => if x.1 = k then (x.1, x.2.1, v) else x) else xs ++ [(k, b, v)]
def dropN (xs : List (NestedKey × Addr × V)) (k : NestedKey) : List (NestedKey × Addr × V) := xs.filter fun x => decide (x.1 ≠ k)
theorem valN_pos {p : NestedKey × Addr × V} {r : List (NestedKey × Addr × V)} {k : NestedKey} (e : p.1 = k) : valN (p :: r) k = some p.2.2 := by simp [valN, List.find?_cons, e]
theorem valN_neg {p : NestedKey × Addr × V} {r : List (NestedKey × Addr × V)} {k : NestedKey} (e : ¬ p.1 = k) : valN (p :: r) k = valN r k := by simp [valN, List.find?_cons, e]
theorem XU.val {xs : List (NestedKey × Addr × V)} {us : List (NestedKey × Addr × Value)} (r : XU xs us) (k : NestedKey) : RelO (valN xs k) ((atKey us k).map (·.2)) := by
  induction r with
  | nil => exact True.intro
  | @cons p q ps qs h t ih =>
    obtain ⟨h1, _, h2⟩ := h
    by_cases e : p.1 = k
    · have e' : q.1 = k := h1.symm.trans e
      have b : atKey (q :: qs) k = some q.2 := by simp [atKey, List.find?_cons, e']
      rw [valN_pos e, b]; exact h2
    · have e' : ¬ q.1 = k := fun z => e (h1.trans z)
      have b : atKey (q :: qs) k = atKey qs k := by simp [atKey, List.find?_cons, e']
      rw [valN_neg e, b]; exact ih
theorem XU.isSome {xs : List (NestedKey × Addr × V)} {us : List (NestedKey × Addr × Value)} (r : XU xs us) (k : NestedKey) : (valN xs k).isSome = (atKey us k).isSome := by
  have q := (r.val k).isSome_eq
  rw [Option.isSome_map] at q
  exact q
theorem XU.map {k : NestedKey} {v : V} {u : Value} (rv : RelV v u) : ∀ {xs : List (NestedKey × Addr × V)} {us : List (NestedKey × Addr × Value)}, XU xs us → XU (xs.map fun x => if x.1 = k then (x.1, x.2.1, v) else x) (us.map (putAt k u))
  | _, _, .nil => .nil
  | _, _, .cons (a := p) (b := q) h t => by
    refine .cons ?_ (XU.map rv t)
    obtain ⟨h1, h2, h3⟩ := h
    unfold putAt
    by_cases e : p.1 = k
    · simp only [if_pos e, if_pos (h1.symm.trans e)]; exact ⟨h1, h2, rv⟩
    · simp only [if_neg e, if_neg (fun z => e (h1.trans z))]; exact ⟨h1, h2, h3⟩
theorem XU.app : ∀ {xs ys : List (NestedKey × Addr × V)} {us ws : List (NestedKey × Addr × Value)}, XU xs us → XU ys ws → XU (xs ++ ys) (us ++ ws)
  | _, _, _, _, .nil, h => h
  | _, _, _, _, .cons r t, h => .cons r (XU.app t h)
theorem XU.put {xs : List (NestedKey × Addr × V)} {us : List (NestedKey × Addr × Value)} (r : XU xs us) (k : NestedKey) (b : Addr) {v : V} {u : Value} (rv : RelV v u) : XU (storN xs k b v) (storedH us k b u) := by
  unfold storN storedH
  rw [r.isSome k]
  cases (atKey us k).isSome with
  | true => simp only [if_true]; exact r.map rv
  | false => simp only [Bool.false_eq_true, if_false]; exact r.app (.cons ⟨rfl, rfl, rv⟩ .nil)
theorem XU.drop (k : NestedKey) : ∀ {xs : List (NestedKey × Addr × V)} {us : List (NestedKey × Addr × Value)}, XU xs us → XU (dropN xs k) (withoutH us k)
  | _, _, .nil => .nil
  | _, _, .cons (a := p) (b := q) h t => by
    have ih := XU.drop k t
    unfold dropN withoutH at ih ⊢
    by_cases e : p.1 = k
    · have e' : q.1 = k := h.1.symm.trans e
      simp only [List.filter_cons, e, e', ne_eq, not_true_eq_false, decide_false, Bool.false_eq_true, if_false]
      exact ih
    · have e' : ¬ q.1 = k := fun z => e (h.1.trans z)
      simp only [List.filter_cons, e, e', ne_eq, not_false_eq_true, decide_true, if_true]
      exact .cons h ih
theorem XU.keys {xs : List (NestedKey × Addr × V)} {us : List (NestedKey × Addr × Value)} (r : XU xs us) : us.map (·.1) = xs.map (·.1) := by
  induction r with
  | nil => rfl
  | cons h t ih => rw [List.map_cons, List.map_cons, ih, h.1]
section
variable {C : Ct} {H : Hp}
theorem pt_val {x : D} : ∀ {kvs : List (D × D)} {xs : List (NestedKey × Addr × V)}, PTd C H kvs xs → (∀ d, dget kvs x = some d → ∃ v, valN xs x.key = some v ∧ RD C H d v) ∧ dhas kvs x = (valN xs x.key).isSome ∧ (dget kvs x = none → valN xs x.key = none)
  | _, _, .nil => ⟨fun d e => (nomatch e), rfl, fun _ => rfl⟩
  | _, _, .cons (a := p) (b := q) r t => by
    obtain ⟨h1, h2, h3⟩ := pt_val (x := x) t
    obtain ⟨_, r1, _, r3⟩ := r
    have e : p.1.eqv x = decide (q.1 = x.key) := by rw [eqv_dec, r1]
    by_cases hk : q.1 = x.key
    · rw [decide_eq_true hk] at e
      refine ⟨fun d hd => ?_, ?_, fun hd => ?_⟩
      · simp only [dget, List.find?_cons, e] at hd
        cases hd
        exact ⟨q.2.2, valN_pos hk, r3⟩
      · simp only [dhas, List.any_cons, e, Bool.true_or]
        rw [valN_pos hk]
        rfl
      · simp only [dget, List.find?_cons, e] at hd
        cases hd
    · rw [decide_eq_false hk] at e
      refine ⟨fun d hd => ?_, ?_, fun hd => ?_⟩
      · simp only [dget, List.find?_cons, e] at hd
        rw [valN_neg hk]
        exact h1 d hd
      · simp only [dhas, List.any_cons, e, Bool.false_or]
        rw [valN_neg hk]
        exact h2
      · simp only [dget, List.find?_cons, e] at hd
        rw [valN_neg hk]
        exact h3 hd
theorem pt_map {x d : D} {v : V} (rd : RD C H d v) : ∀ {kvs : List (D × D)} {xs : List (NestedKey × Addr × V)}, PTd C H kvs xs → PTd C H (kvs.map fun p => if p.1.eqv x then (p.1, d) else p) (xs.map fun y => if y.1 = x.key then (y.1, y.2.1, v) else y)
  | _, _, .nil => .nil
  | _, _, .cons (a := p) (b := q) r t => by
    refine .cons ?_ (pt_map rd t)
    obtain ⟨r0, r1, r2, r3⟩ := r
    have e : p.1.eqv x = decide (q.1 = x.key) := by rw [eqv_dec, r1]
    by_cases hk : q.1 = x.key
    · simp only [e, hk, decide_true, if_true]
      exact ⟨r0, r1.trans hk, r2, rd⟩
    · simp only [e, hk, decide_false, Bool.false_eq_true, if_false]
      exact ⟨r0, r1, r2, r3⟩
theorem pt_app : ∀ {kvs kvs' : List (D × D)} {xs xs' : List (NestedKey × Addr × V)}, PTd C H kvs xs → PTd C H kvs' xs' → PTd C H (kvs ++ kvs') (xs ++ xs')
  | _, _, _, _, .nil, h => h
  | _, _, _, _, .cons r t, h => .cons r (pt_app t h)
theorem pt_put {x d : D} {b : Addr} {v : V} (hx : x.hkT = true) (rx : RD C H x (.ref b)) (rd : RD C H d v) {kvs : List (D × D)} {xs : List (NestedKey × Addr × V)} (h : PTd C H kvs xs) : PTd C H (dput kvs x d) (storN xs x.key b v) := by
  unfold dput storN
  rw [(pt_val h).2.1]
  cases (valN xs x.key).isSome with
  | true => simp only [if_true]; exact pt_map rd h
  | false => simp only [Bool.false_eq_true, if_false]; exact pt_app h (.cons ⟨hx, rfl, rx, rd⟩ .nil)
theorem pt_drop {x : D} : ∀ {kvs : List (D × D)} {xs : List (NestedKey × Addr × V)}, PTd C H kvs xs → PTd C H (ddel kvs x) (dropN xs x.key)
  | _, _, .nil => .nil
  | _, _, .cons (a := p) (b := q) r t => by
    have ih := pt_drop (x := x) t
    unfold ddel dropN at ih ⊢
    have e : p.1.eqv x = decide (q.1 = x.key) := by rw [eqv_dec, r.2.1]
    by_cases hk : q.1 = x.key
    · simp only [List.filter_cons, e, hk, decide_true, Bool.not_true, Bool.false_eq_true, if_false, ne_eq, not_true_eq_false, decide_false]
      exact ih
    · simp only [List.filter_cons, e, hk, decide_false, Bool.not_false, if_true, ne_eq, not_false_eq_true, decide_true]
      exact .cons r ih
theorem PTd.len {kvs : List (D × D)} {xs : List (NestedKey × Addr × V)} (h : PTd C H kvs xs) : kvs.length = xs.length := Paired.length h
theorem PTd.keep {H' : Hp} (k : TupK H H') {kvs : List (D × D)} {xs : List (NestedKey × Addr × V)} (h : PTd C H kvs xs) : PTd C H' kvs xs := Paired.mapP h fun _ _ q => ⟨q.1, q.2.1, q.2.2.1.keep k, q.2.2.2.keep k⟩
theorem pt_keys : ∀ {kvs : List (D × D)} {xs : List (NestedKey × Addr × V)}, PTd C H kvs xs → RDs C H (kvs.map (·.1)) (xs.map fun q => V.ref q.2.1)
  | _, _, .nil => rfl
  | _, _, .cons r t => ⟨_, _, rfl, r.2.2.1, pt_keys t⟩
theorem pt_vals : ∀ {kvs : List (D × D)} {xs : List (NestedKey × Addr × V)}, PTd C H kvs xs → RDs C H (kvs.map (·.2)) (xs.map fun q => q.2.2)
  | _, _, .nil => rfl
  | _, _, .cons r t => ⟨_, _, rfl, r.2.2.2, pt_vals t⟩
theorem nodup_put {xs : List (NestedKey × Addr × V)} (n : (xs.map (·.1)).Nodup) (k : NestedKey) (b : Addr) (v : V) : ((storN xs k b v).map (·.1)).Nodup := by
  unfold storN
  cases e : (valN xs k).isSome with
  | true =>
    simp only [if_true]
    have : (xs.map fun x => if x.1 = k then (x.1, x.2.1, v) else x).map (·.1) = xs.map (·.1) := by
      rw [List.map_map]
      apply List.map_congr_left
      intro x _
      show (if x.1 = k then (x.1, x.2.1, v) else x).1 = x.1
      split <;> rfl
    rw [this]; exact n
  | false =>
    simp only [Bool.false_eq_true, if_false]
    rw [List.map_append, List.nodup_append]
    refine ⟨n, by simp, ?_⟩
    intro a ha b' hb z
    have hb2 : b' = k := by simpa using hb
    subst z
    subst hb2
    obtain ⟨y, hy, e2⟩ := List.mem_map.mp ha
    have : (valN xs a).isSome = true := by
      unfold valN
      rw [Option.isSome_map, List.find?_isSome]
      exact ⟨y, hy, by simpa using e2⟩
    rw [e] at this
    cases this
theorem nodup_drop {xs : List (NestedKey × Addr × V)} (n : (xs.map (·.1)).Nodup) (k : NestedKey) : ((dropN xs k).map (·.1)).Nodup :=
  List.Nodup.sublist (List.Sublist.map _ List.filter_sublist) n
theorem dput_le (kvs : List (D × D)) (k v : D) : (dput kvs k v).length ≤ kvs.length + 1 := by
  unfold dput
  split
  · rw [List.length_map]; omega
  · rw [List.length_append]; simp
theorem ddel_le (kvs : List (D × D)) (k : D) : (ddel kvs k).length ≤ kvs.length := List.length_filter_le _ _
variable {h : Heap}
/-- the dict's entries as they stand -/
theorem nD_rd (ok : HOk C.P C.w H h) (kin : C.K.In h) {a : Addr} {kvs : List (D × D)} {xs : List (NestedKey × Addr × V)} (e : Rd H a (nD C.P C.w a xs)) (n : (xs.map (·.1)).Nodup) (pt : PTd C H kvs xs) :
    ∃ us, XU xs us ∧ h.DictOfH (nestedKind C.P C.w) a us := by
  obtain ⟨⟨us, o, es, ep, pu, ho, hx, hd, he⟩, _, _⟩ := (show ObjOk C.P C.w H h a (nD C.P C.w a xs) from e.ok ok)
  refine ⟨us, pu, o, es, ep, ho, hx, hd, he, fun x hm => ?_, ?_⟩
  · obtain ⟨i, hi⟩ := List.mem_iff_getElem?.mp hm
    have l1 : xs.length = us.length := Paired.length pu
    have hlt : i < us.length := (List.getElem?_eq_some_iff.mp hi).1
    have l2 := pt.len
    obtain ⟨p, hp⟩ : ∃ p, kvs[i]? = some p := ⟨kvs[i], List.getElem?_eq_getElem (by omega)⟩
    obtain ⟨q, hq, r0, r1, r2, _⟩ := paired_get pt hp
    obtain ⟨x', hx', e1, e2, _⟩ := paired_get pu hq
    rw [hi] at hx'
    cases hx'
    obtain ⟨p1, p2⟩ := hkT_is r0
    rw [← e1, ← r1, ← e2]
    exact ⟨RD.is ok kin r2 rfl p1, p2⟩
  · rw [XU.keys pu]; exact n
end
section
variable {ca : Nat → Addr} {X : Cx} {M0 M : Mp} {pins : List (Addr × Obj)} {σ3 : Lo} {σ : L2.St} {H : Hp} {s : Shared}
/-- a dict with such keys, told as it is or while it is walked -/
def DT (M : Mp) (a : Addr) (kvs : List (D × D)) : Prop := M a = some (.dcT kvs) ∨ M a = some (.lkT kvs)
theorem I3.dtAt (I : I3 (ct X ca) X M0 pins σ3 M σ H s) {a : Addr} {kvs : List (D × D)} (h : DT M a kvs) : (a == sysModules) = false ∧ kvs.length ≤ sizeLine ∧ ∃ xs us, Rd H a (nD X.prog X.w a xs) ∧ (xs.map (·.1)).Nodup ∧ PTd (ct X ca) H kvs xs ∧ XU xs us ∧ s.heap.DictOfH (nestedKind X.prog X.w) a us := by
  rcases h with h | h
  · obtain ⟨h1, h2, xs, hx, n, pt⟩ := I.hp.dcT h
    obtain ⟨us, xu, dd⟩ := nD_rd (C := ct X ca) I.inv.hok I.inv.kIn (.inl hx) n pt
    exact ⟨h1, h2, xs, us, .inl hx, n, pt, xu, dd⟩
  · obtain ⟨h1, h2, ob, xs, hx, n, pt⟩ := I.hp.lkT h
    obtain ⟨us, xu, dd⟩ := nD_rd (C := ct X ca) I.inv.hok I.inv.kIn (.inr ⟨ob, hx⟩) n pt
    exact ⟨h1, h2, xs, us, .inr ⟨ob, hx⟩, n, pt, xu, dd⟩
theorem I3.dtRaw (I : I3 (ct X ca) X M0 pins σ3 M σ H s) {a : Addr} {kvs : List (D × D)} (h : DT M a kvs) : (a == sysModules) = false ∧ ∃ es ep, s.heap.DictRaw a es ep ∧ es.size = kvs.length ∧ (es.size : Int) < 2 ^ 63 := by
  obtain ⟨hs, hz, xs, us, hH, n, pt, xu, o, es, ep, ho, hx2, hd, he, _⟩ := I.dtAt h
  have l1 : es.size = kvs.length := by
    rw [size_of_entries he, pt.len]
    exact (Paired.length xu).symm
  exact ⟨hs, es, ep, ⟨o, ho, hx2, hd⟩, l1, by rw [l1]; rw [sizeLine_eq] at hz; omega⟩
theorem I3.keyIs (I : I3 (ct X ca) X M0 pins σ3 M σ H s) {x : D} {v : V} {u : Value} (r : RD (ct X ca) H x v) (rv : RelV v u) (hx : x.hkT = true) : ∃ b, u = .ref b ∧ v = .ref b ∧ (nestedKind X.prog X.w).is s.heap x.key b := by
  obtain ⟨b, rfl⟩ := hkT_ref r hx
  cases rv
  obtain ⟨p1, p2⟩ := hkT_is hx
  exact ⟨b, rfl, rfl, RD.is I.inv.hok I.inv.kIn r rfl p1, p2⟩
theorem dt_type {a : Addr} {us : List (NestedKey × Addr × Value)} (dd : s.heap.DictOfH (nestedKind X.prog X.w) a us) : s.TypeIs (.ref a) "dict" ∧ ∀ b, Value.ref a = .ref b → ∃ ob, s.heap.get? b = some ob ∧ ob.dict = none := by
  refine ⟨dd.typeIs, fun b q => ?_⟩
  cases q
  obtain ⟨ob, _, _, h1, h2, _⟩ := dd
  exact ⟨ob, h1, h2.2.1⟩
/-- a value that is there -/
theorem xu_some {xs : List (NestedKey × Addr × V)} {us : List (NestedKey × Addr × Value)} (r : XU xs us) {k : NestedKey} {v : V} (l : valN xs k = some v) : ∃ p, atKey us k = some p ∧ RelV v p.2 := by
  have q := r.val k
  rw [l] at q
  cases e : atKey us k with
  | none => rw [e] at q; exact q.elim
  | some p => rw [e] at q; exact ⟨p, rfl, q⟩
theorem xu_none {xs : List (NestedKey × Addr × V)} {us : List (NestedKey × Addr × Value)} (r : XU xs us) {k : NestedKey} (l : valN xs k = none) : atKey us k = none := by
  have q := r.val k
  rw [l] at q
  cases e : atKey us k with
  | none => rfl
  | some p => rw [e] at q; exact q.elim
variable {A : Around} {E : Value → Shared → Prop}
/-- d[x] -/
theorem t_getItem {a : Addr} {kvs : List (D × D)} {x d : D} {v : V} {u : Value} {Q : Value → Shared → Prop} (hu : A.units + 10 < cLine) (I : I3 (ct X ca) X M0 pins σ3 M σ H s) (g : DT M a kvs) (rx : RD (ct X ca) H x v) (rv : RelV v u) (hx : x.hkT = true) (hd : dget kvs x = some d)
    (h : ∀ w w' s', Inv X pins σ H s' → RD (ct X ca) H d w → RelV w w' → Q w' s') : wpAny (model X.prog X.w) A (getItem (.ref a) u) Q E s := by
  obtain ⟨hs, hz, xs, us, hH, n, pt, xu, dd⟩ := I.dtAt g
  obtain ⟨b, rfl, rfl, hk⟩ := I.keyIs rx rv hx
  obtain ⟨w, l, rw'⟩ := (pt_val pt).1 d hd
  obtain ⟨p, hp, rp⟩ := xu_some xu l
  exact wpAny_getItem_heap (show A.in1.units + 8 < cLine by show A.units + 1 + 8 < cLine; omega) hk dd hp (h w p.2 _ (I.inv.tok _) rw' rp)
/-- x in d -/
theorem t_in {a : Addr} {kvs : List (D × D)} {x : D} {v : V} {u : Value} {Q : Value → Shared → Prop} (hu : A.units + 10 < cLine) (I : I3 (ct X ca) X M0 pins σ3 M σ H s) (g : DT M a kvs) (rx : RD (ct X ca) H x v) (rv : RelV v u) (hx : x.hkT = true)
    (h : ∀ s', Inv X pins σ H s' → Q (.bool (dhas kvs x)) s') : wpAny (model X.prog X.w) A (compareOp .In u (.ref a)) Q E s := by
  obtain ⟨hs, hz, xs, us, hH, n, pt, xu, dd⟩ := I.dtAt g
  obtain ⟨b, rfl, rfl, hk⟩ := I.keyIs rx rv hx
  refine wpAny_in_heap (show A.in1.units + 8 < cLine by show A.units + 1 + 8 < cLine; omega) hk hs dd ?_
  rw [← xu.isSome, ← (pt_val pt).2.1]
  exact h _ (I.inv.tok _)
theorem t_notIn {a : Addr} {kvs : List (D × D)} {x : D} {v : V} {u : Value} {Q : Value → Shared → Prop} (hu : A.units + 10 < cLine) (I : I3 (ct X ca) X M0 pins σ3 M σ H s) (g : DT M a kvs) (rx : RD (ct X ca) H x v) (rv : RelV v u) (hx : x.hkT = true)
    (h : ∀ s', Inv X pins σ H s' → Q (.bool (!dhas kvs x)) s') : wpAny (model X.prog X.w) A (compareOp .NotIn u (.ref a)) Q E s := by
  obtain ⟨hs, hz, xs, us, hH, n, pt, xu, dd⟩ := I.dtAt g
  obtain ⟨b, rfl, rfl, hk⟩ := I.keyIs rx rv hx
  refine wpAny_notIn_heap (show A.in1.units + 8 < cLine by show A.units + 1 + 8 < cLine; omega) hk hs dd ?_
  rw [← xu.isSome, ← (pt_val pt).2.1]
  exact h _ (I.inv.tok _)
theorem getD_or {o : Option (Addr × Value)} {z : Value} : (o.map (·.2)).getD z = match o with
    | some p => p.2
    | none => z := by cases o <;> rfl
theorem val_or {C : Ct} {kvs : List (D × D)} {xs : List (NestedKey × Addr × V)} {us : List (NestedKey × Addr × Value)} (pt : PTd C H kvs xs) (xu : XU xs us) (x : D) {z : D} {zv : V} {zu : Value} (rz : RD C H z zv) (rzv : RelV zv zu) :
    ∃ w, RD C H ((dget kvs x).getD z) w ∧ RelV w (((atKey us x.key).map (·.2)).getD zu) := by
  cases e : dget kvs x with
  | some d =>
    obtain ⟨w, l, rw'⟩ := (pt_val pt).1 d e
    obtain ⟨p, hp, rp⟩ := xu_some xu l
    rw [hp]
    exact ⟨w, rw', rp⟩
  | none =>
    rw [xu_none xu ((pt_val pt).2.2 e)]
    exact ⟨zv, rz, rzv⟩
/-- d.get(x), d.get(x, z) -/
theorem t_get1 {a : Addr} {kvs : List (D × D)} {x : D} {v : V} {u : Value} {Q : Value → Shared → Prop} (hu : A.units + 10 < cLine) (I : I3 (ct X ca) X M0 pins σ3 M σ H s) (g : DT M a kvs) (rx : RD (ct X ca) H x v) (rv : RelV v u) (hx : x.hkT = true)
    (h : ∀ w w' s', Inv X pins σ H s' → RD (ct X ca) H ((dget kvs x).getD .non) w → RelV w w' → Q w' s') : wpAny (model X.prog X.w) A (call (.builtin "dict.get") [.ref a, u]) Q E s := by
  obtain ⟨hs, hz, xs, us, hH, n, pt, xu, dd⟩ := I.dtAt g
  obtain ⟨b, rfl, rfl, hk⟩ := I.keyIs rx rv hx
  obtain ⟨w, r1, r2⟩ := val_or pt xu x (z := .non) (zv := .non) (zu := .none) rfl rfl
  exact call_meetsIn PySem.F.slot_dict_get dd.typeIs PySem.F.entry_dict_get (PySem.F.args_dict_get_2 _ _) (meetsH_dict_get (nestedKind X.prog X.w) a b hs) ⟨(show A.in1.units + 8 < cLine by show A.units + 1 + 8 < cLine; omega), x.key, us, hk, dd, h w _ _ (I.inv.tok _) r1 r2⟩
theorem t_get2 {a : Addr} {kvs : List (D × D)} {x z : D} {v zv : V} {u zu : Value} {Q : Value → Shared → Prop} (hu : A.units + 10 < cLine) (I : I3 (ct X ca) X M0 pins σ3 M σ H s) (g : DT M a kvs) (rx : RD (ct X ca) H x v) (rv : RelV v u) (hx : x.hkT = true) (rz : RD (ct X ca) H z zv) (rzv : RelV zv zu)
    (h : ∀ w w' s', Inv X pins σ H s' → RD (ct X ca) H ((dget kvs x).getD z) w → RelV w w' → Q w' s') : wpAny (model X.prog X.w) A (call (.builtin "dict.get") [.ref a, u, zu]) Q E s := by
  obtain ⟨hs, hz, xs, us, hH, n, pt, xu, dd⟩ := I.dtAt g
  obtain ⟨b, rfl, rfl, hk⟩ := I.keyIs rx rv hx
  obtain ⟨w, r1, r2⟩ := val_or pt xu x rz rzv
  exact call_meetsIn PySem.F.slot_dict_get dd.typeIs PySem.F.entry_dict_get (PySem.F.args_dict_get_3 _ _ _) (meetsH_dict_get_default (nestedKind X.prog X.w) a b hs zu) ⟨(show A.in1.units + 8 < cLine by show A.units + 1 + 8 < cLine; omega), x.key, us, hk, dd, h w _ _ (I.inv.tok _) r1 r2⟩
/-- the dict is written -/
theorem t_write {a : Addr} {kvs kvs' : List (D × D)} {xs : List (NestedKey × Addr × V)} {us : List (NestedKey × Addr × Value)} {h' : Heap} {t' : Nat} (I : I3 (ct X ca) X M0 pins σ3 M σ H s) (g : M a = some (.dcT kvs)) (hs : (a == sysModules) = false) (hz : kvs'.length ≤ sizeLine) (n : (xs.map (·.1)).Nodup) (pt : PTd (ct X ca) H kvs' xs) (xu : XU xs us)
    (dd : h'.DictOfH (nestedKind X.prog X.w) a us) (sb : Heap.SameBut a s.heap h') : I3 (ct X ca) X M0 pins σ3 (mset M a (.dcT kvs')) σ (upd H a (nD X.prog X.w a xs)) { s with heap := h', toks := t' } ∧ Stp H M (upd H a (nD X.prog X.w a xs)) (mset M a (.dcT kvs')) := by
  obtain ⟨_, _, xs0, hH, _⟩ := I.hp.dcT g
  obtain ⟨o, es, ep, ho, hx, hd, he, his, _⟩ := dd
  have J : Inv X pins σ (upd H a (nD X.prog X.w a xs)) { s with heap := h', toks := t' } := d_write I.inv (by rw [hH]; exact True.intro) sb ⟨o, ho⟩ ⟨⟨us, o, es, ep, xu, ho, hx, hd, he⟩, ⟨o, ho⟩, fun h1 h2 ⟨us', o', es', ep', q1, q2, q3⟩ k => ⟨us', o', es', ep', q1, k _ q2, q3⟩⟩
  have kw : TupK H (upd H a (nD X.prog X.w a xs)) := I.hp.tupKw g
  have st : Stp H M (upd H a (nD X.prog X.w a xs)) (mset M a (.dcT kvs')) := write_stp I.hp g
  exact ⟨I.to J (I.hp.write (m' := .dcT kvs') g ⟨hs, hz, xs, rfl, n, pt.keep kw⟩) st, st⟩
/-- d[x] = z -/
theorem t_setItem {a : Addr} {kvs : List (D × D)} {x z : D} {v zv : V} {u zu : Value} {Q : Unit → Shared → Prop} (hu : A.units + 10 < cLine) (I : I3 (ct X ca) X M0 pins σ3 M σ H s) (g : M a = some (.dcT kvs)) (rx : RD (ct X ca) H x v) (rv : RelV v u) (hx : x.hkT = true) (rz : RD (ct X ca) H z zv) (rzv : RelV zv zu) (hz : kvs.length < sizeLine)
    (h : ∀ H' s', I3 (ct X ca) X M0 pins σ3 (mset M a (.dcT (dput kvs x z))) σ H' s' → Stp H M H' (mset M a (.dcT (dput kvs x z))) → Q () s') : wpAny (model X.prog X.w) A (setItem (.ref a) u zu) Q E s := by
  obtain ⟨hs, hz', xs, us, hH, n, pt, xu, dd⟩ := I.dtAt (.inl g)
  obtain ⟨b, rfl, rfl, hk⟩ := I.keyIs rx rv hx
  have l1 : kvs.length = us.length := pt.len.trans (Paired.length xu)
  refine wpAny_setItem_heap (hsz := by omega) (show A.in1.units + 8 < cLine by show A.units + 1 + 8 < cLine; omega) hk dd fun h' dd' sb => ?_
  obtain ⟨I', st⟩ := t_write (t' := s.toks + (nestedKind X.prog X.w).draws x.key) I g hs (by have := dput_le kvs x z; omega) (nodup_put n x.key b zv) (pt_put hx rx rz pt) (xu.put x.key b rzv) dd' sb
  exact h _ _ I' st
/-- del d[x] -/
theorem t_delItem {a : Addr} {kvs : List (D × D)} {x : D} {v : V} {u : Value} {Q : Unit → Shared → Prop} (hu : A.units + 10 < cLine) (I : I3 (ct X ca) X M0 pins σ3 M σ H s) (g : M a = some (.dcT kvs)) (rx : RD (ct X ca) H x v) (rv : RelV v u) (hx : x.hkT = true) (hh : dhas kvs x = true)
    (h : ∀ H' s', I3 (ct X ca) X M0 pins σ3 (mset M a (.dcT (ddel kvs x))) σ H' s' → Stp H M H' (mset M a (.dcT (ddel kvs x))) → Q () s') : wpAny (model X.prog X.w) A (delItem (.ref a) u) Q E s := by
  obtain ⟨hs, hz', xs, us, hH, n, pt, xu, dd⟩ := I.dtAt (.inl g)
  obtain ⟨b, rfl, rfl, hk⟩ := I.keyIs rx rv hx
  have l1 : kvs.length = us.length := pt.len.trans (Paired.length xu)
  have h2 : (atKey us x.key).isSome = true := by rw [← xu.isSome, ← (pt_val pt).2.1]; exact hh
  obtain ⟨p, hp⟩ := Option.isSome_iff_exists.mp h2
  refine wpAny_delItem_heap (hsz := by omega) (show A.in1.units + 8 < cLine by show A.units + 1 + 8 < cLine; omega) hk hs dd hp fun h' dd' sb => ?_
  obtain ⟨I', st⟩ := t_write (t' := s.toks + (nestedKind X.prog X.w).draws x.key) I g hs (by have := ddel_le kvs x; omega) (nodup_drop n x.key) (pt_drop pt) (xu.drop x.key) dd' sb
  exact h _ _ I' st
/-- d.pop(x), d.pop(x, z), there -/
theorem t_pop {a : Addr} {kvs : List (D × D)} {x d : D} {v : V} {u : Value} {more : List Value} {Q : Value → Shared → Prop} (hu : A.units + 10 < cLine) (I : I3 (ct X ca) X M0 pins σ3 M σ H s) (g : M a = some (.dcT kvs)) (rx : RD (ct X ca) H x v) (rv : RelV v u) (hx : x.hkT = true) (hd : dget kvs x = some d) (hm : more = [] ∨ ∃ z, more = [z])
    (h : ∀ H' w w' s', I3 (ct X ca) X M0 pins σ3 (mset M a (.dcT (ddel kvs x))) σ H' s' → Stp H M H' (mset M a (.dcT (ddel kvs x))) → RD (ct X ca) H' d w → RelV w w' → Q w' s') : wpAny (model X.prog X.w) A (call (.builtin "dict.pop") (.ref a :: u :: more)) Q E s := by
  obtain ⟨hs, hz', xs, us, hH, n, pt, xu, dd⟩ := I.dtAt (.inl g)
  obtain ⟨b, rfl, rfl, hk⟩ := I.keyIs rx rv hx
  have l1 : kvs.length = us.length := pt.len.trans (Paired.length xu)
  obtain ⟨w, l, rw'⟩ := (pt_val pt).1 d hd
  obtain ⟨p, hp, rp⟩ := xu_some xu l
  have ha : argsOk "dict.pop" ⟨.ref a :: .ref b :: more, []⟩ := by
    rcases hm with q | ⟨z, q⟩
    · subst q; exact PySem.F.args_dict_pop_2 _ _
    · subst q; exact PySem.F.args_dict_pop_3 _ _ _
  refine call_pop_heap (hsz := by omega) hm ha (show A.in1.units + 8 < cLine by show A.units + 1 + 8 < cLine; omega) hk hs dd hp fun h' dd' sb => ?_
  obtain ⟨I', st⟩ := t_write (t' := s.toks + (nestedKind X.prog X.w).draws x.key) I g hs (by have := ddel_le kvs x; omega) (nodup_drop n x.key) (pt_drop pt) (xu.drop x.key) dd' sb
  exact h _ w p.2 _ I' st (rw'.keep (st.tupK I.hp)) rp
theorem t_popD {a : Addr} {kvs : List (D × D)} {x : D} {v : V} {u zu : Value} {Q : Value → Shared → Prop} (hu : A.units + 10 < cLine) (I : I3 (ct X ca) X M0 pins σ3 M σ H s) (g : M a = some (.dcT kvs)) (rx : RD (ct X ca) H x v) (rv : RelV v u) (hx : x.hkT = true) (hd : dget kvs x = none)
    (h : ∀ s', Inv X pins σ H s' → Q zu s') : wpAny (model X.prog X.w) A (call (.builtin "dict.pop") [.ref a, u, zu]) Q E s := by
  obtain ⟨hs, hz', xs, us, hH, n, pt, xu, dd⟩ := I.dtAt (.inl g)
  obtain ⟨b, rfl, rfl, hk⟩ := I.keyIs rx rv hx
  have l1 : kvs.length = us.length := pt.len.trans (Paired.length xu)
  exact call_pop_default_heap (hsz := by omega) (show A.in1.units + 8 < cLine by show A.units + 1 + 8 < cLine; omega) hk hs dd (xu_none xu ((pt_val pt).2.2 hd)) fun tk => h _ (I.inv.tok tk)
/-- {} -/
theorem nD_new {P : Program} {w : World} {H : Hp} (h : Heap) : ObjOk P w H (h.push { cls := .type "dict", data := .dict #[] }) h.objs.size (nD P w h.objs.size []) :=
  ⟨⟨[], _, #[], 0, .nil, Heap.get?_push_size _ rfl, ⟨rfl, rfl, rfl⟩, rfl, rfl⟩, ⟨_, Heap.get?_push_size _ rfl⟩, fun h1 h2 ⟨us', o', es', ep', q1, q2, q3⟩ k => ⟨us', o', es', ep', q1, k _ q2, q3⟩⟩
theorem t_new {pos : Pos} {Q : Value → Shared → Prop} (I : I3 (ct X ca) X M0 pins σ3 M σ H s) (h : ∀ p s', H p = none → (p == sysModules) = false → Inv X pins σ (upd H p (nD X.prog X.w p [])) s' → Q (.ref p) s') :
    wpAny (model X.prog X.w) X.A (eval (.Dict [] [] pos) X.env) Q X.xe s :=
  wpAny_Dict_empty (h s.heap.objs.size _ (I.inv.hok.fresh (Nat.le_refl _)) (beq_eq_false_iff_ne.mpr (Ne.symm (Nat.ne_of_lt I.inv.big)))
    (I.inv.laid (a := s.heap.objs.size) (t' := s.toks) (fun _ _ q => Heap.get?_push_of_some _ q) (Nat.le_refl _) (nD_new s.heap)))
end
end L3
end
section
set_option autoImplicit false
set_option linter.all false
set_option maxRecDepth 100000
/-! L3: comparisons, truth, subscripts, slices, by values -/
namespace L3
open PySem L2 PyProof.Rows

section
variable {ca : Nat → Addr} {X : Cx} {M0 M : Mp} {pins : List (Addr × Obj)} {σ3 : Lo} {σ : L2.St} {H : Hp} {s : Shared}
theorem I3.ok (I : I3 (ct X ca) X M0 pins σ3 M σ H s) : HOk (ct X ca).P (ct X ca).w H s.heap := I.inv.hok
theorem I3.kin (I : I3 (ct X ca) X M0 pins σ3 M σ H s) : (ct X ca).K.In s.heap := I.inv.kIn

/-! ### data through the heap -/
/-- the module table is a dict, so it is none of our lists -/
def SysD (K : PySem.W.Frag) : Prop := ∃ o, K.lookup sysModules = some o ∧ o.cls = .type "dict"
mutual
theorem Deep.reads (sy : SysD X.K) (I : I3 (ct X ca) X M0 pins σ3 M σ H s) : ∀ {d : D} {p : PyData} {v : V} {u : Value}, Deep M d p → RD (ct X ca) H d v → RelV v u → ∃ as, Reads s.heap u p as ∧ sysModules ∉ as
  | _, _, v, u, .non, r, q => by rw [show v = .non from r] at q; cases q; exact ⟨_, .none, by simp⟩
  | _, _, v, u, .bl b, r, q => by rw [show v = .bl b from r] at q; cases q; exact ⟨_, .bool b, by simp⟩
  | _, _, v, u, .int i, r, q => by rw [show v = .int i from r] at q; obtain ⟨t, rfl⟩ := q; exact ⟨_, .int i t, by simp⟩
  | _, _, v, u, .str x, r, q => by rw [show v = .str x from r] at q; obtain ⟨t, rfl⟩ := q; exact ⟨_, .str x t, by simp⟩
  | _, _, v, u, .tup (ds := ds) hs, r, q => by
    obtain ⟨a, xs, rfl, hq, rs⟩ := r
    cases q
    rcases hq with hq | (hq | ⟨_, hq⟩) | ⟨o, its, n, hk, hc, hd, hz, rv⟩
    · obtain ⟨z, its, rv, o, ho, hc, n, hd⟩ := (show Rd H a (.tup xs) from .inl hq).ok I.ok
      obtain ⟨as, h1, h2⟩ := Deeps.reads sy I hs rs rv
      exact ⟨_, .tuple ho hc hd (by simpa using h1), h2⟩
    · cases hq
    · cases hq
    · obtain ⟨as, h1, h2⟩ := Deeps.reads sy I hs rs rv
      exact ⟨_, .tuple (I.kin a o hk) hc hd h1, h2⟩
  | _, _, v, u, .kt (ds := ds) hs, r, q => by
    obtain ⟨a, xs, rfl, hq, rs⟩ := r
    cases q
    rcases hq with (hq | ⟨_, hq⟩) | ⟨o, its, n, hk, hc, hd, hz, rv⟩
    · cases hq
    · cases hq
    · obtain ⟨as, h1, h2⟩ := Deeps.reads sy I hs rs rv
      exact ⟨_, .tuple (I.kin a o hk) hc hd h1, h2⟩
  | _, _, v, u, .lst (a := a) hm hs, r, q => by
    rw [show v = .ref a from r] at q
    cases q
    obtain ⟨xs, hx, rs⟩ := I.hp.lst hm
    obtain ⟨z, its, n, rv, e⟩ := I.ok a _ hx
    obtain ⟨as, h1, h2⟩ := Deeps.reads sy I hs rs rv
    refine ⟨_, .list e rfl rfl (by simpa using h1), fun hm => ?_⟩
    rcases List.mem_cons.mp hm with hm | hm
    · obtain ⟨o, ho, hc⟩ := sy
      have := I.kin _ _ ho
      rw [hm, e] at this
      have e2 := Option.some.inj this
      rw [← e2] at hc
      have hc' : Value.type "list" = .type "dict" := hc
      injection hc' with hc'
      exact absurd hc' (by decide)
    · exact h2 hm
  | _, _, v, u, .dct (a := a) (kvs := kvs) hm hk hv, r, q => by
    rw [show v = .ref a from r] at q
    cases q
    obtain ⟨ks, hx, pd⟩ := I.hp.dct hm
    obtain ⟨z, hsys, vs, kv, o, es, ep, ho, hex, hd, _, pr, _⟩ := dk_rd I.ok (.inl hx)
    obtain ⟨v1, v2⟩ := entries_vals pr kv
    obtain ⟨as, h1, h2⟩ := Deeps.reads sy I hk (pd_keys pd) v1
    obtain ⟨bs, h3, h4⟩ := Deeps.reads sy I hv (pd_vals pd) v2
    refine ⟨_, .dict ho hex.1 hd h1 h3, fun hm => ?_⟩
    rcases List.mem_append.mp hm with hm | hm
    · rcases List.mem_cons.mp hm with hm | hm
      · rw [← hm] at hsys
        exact absurd hsys (by decide)
      · exact h2 hm
    · exact h4 hm
theorem Deeps.reads (sy : SysD X.K) (I : I3 (ct X ca) X M0 pins σ3 M σ H s) : ∀ {ds : List D} {ps : List PyData} {vs : List V} {us : List Value}, Deeps M ds ps → RDs (ct X ca) H ds vs → Vals vs us → ∃ as, ReadsAll s.heap us ps as ∧ sysModules ∉ as
  | _, _, vs, us, .nil, r, q => by rw [show vs = [] from r] at q; cases q; exact ⟨_, .nil, by simp⟩
  | _, _, vs, us, .cons h1 h2, r, q => by
    obtain ⟨x, l, rfl, r1, r2⟩ := r
    cases q with
    | cons q1 q2 =>
      obtain ⟨as, g1, g2⟩ := Deep.reads sy I h1 r1 q1
      obtain ⟨bs, g3, g4⟩ := Deeps.reads sy I h2 r2 q2
      exact ⟨_, .cons g1 g3, fun hm => (List.mem_append.mp hm).elim g2 g4⟩
end

/-! ### == and in -/
theorem flat_of {x : D} (h : x.flat = true) : x.pure = true ∧ x.key.depth ≤ 8 := by
  unfold D.flat at h
  rw [Bool.and_eq_true] at h
  exact ⟨h.1, of_decide_eq_true h.2⟩
theorem rc_flat {A : Around} (hu : A.units + 64 < cLine) (I : I3 (ct X ca) X M0 pins σ3 M σ H s) {x y : D} {a b : V} {v u : Value} (rx : RD (ct X ca) H x a) (ry : RD (ct X ca) H y b) (ra : RelV a v) (rb : RelV b u) (fx : x.flat = true) (fy : y.flat = true) : SeqAt.RcAt A s v u (x.eqv y) := by
  obtain ⟨px, dx⟩ := flat_of fx
  obtain ⟨py, dy⟩ := flat_of fy
  exact rcKey _ _ v u (RD.is I.ok I.kin rx ra px) (RD.is I.ok I.kin ry rb py) (by omega)
theorem rcNe_flat {A : Around} (hu : A.units + 64 < cLine) (I : I3 (ct X ca) X M0 pins σ3 M σ H s) {x y : D} {a b : V} {v u : Value} (rx : RD (ct X ca) H x a) (ry : RD (ct X ca) H y b) (ra : RelV a v) (rb : RelV b u) (fx : x.flat = true) (fy : y.flat = true) : SeqAt.RcNeAt A s v u (!x.eqv y) := by
  obtain ⟨px, dx⟩ := flat_of fx
  obtain ⟨py, dy⟩ := flat_of fy
  exact rcNeKey _ _ v u (RD.is I.ok I.kin rx ra px) (RD.is I.ok I.kin ry rb py) (by omega)
open Classical in
/-- an item's answer, by the value that stands there -/
noncomputable def eKey (h : Heap) (kx : NestedKey) (u : Value) : Bool := if ∃ k, NestedIs h k u ∧ NestedKey.beq k kx = true then true else false
theorem eKey_of {h : Heap} {k kx : NestedKey} {u : Value} (r : NestedIs h k u) : eKey h kx u = NestedKey.beq k kx := by
  unfold eKey
  cases e : NestedKey.beq k kx with
  | true => rw [if_pos ⟨k, r, e⟩]
  | false =>
    rw [if_neg]
    rintro ⟨k', r', e'⟩
    rw [NestedIs.inj _ _ _ r' r, e] at e'
    cases e'
theorem any_eKey {C : Ct} {h : Heap} (ok : HOk C.P C.w H h) (kin : C.K.In h) {x : D} : ∀ {ds : List D} {xs : List V} {us : List Value}, RDs C H ds xs → Vals xs us → (∀ d ∈ ds, d.flat = true) → us.any (eKey h x.key) = ds.any fun z => z.eqv x
  | [], xs, us, r, q, _ => by rw [show xs = [] from r] at q; cases q; rfl
  | d :: ds, xs, us, r, q, p => by
    obtain ⟨y, l, rfl, r1, r2⟩ := r
    cases q with
    | cons q1 q2 =>
      rw [List.any_cons, List.any_cons, any_eKey ok kin r2 q2 fun z hz => p z (List.mem_cons_of_mem _ hz), eKey_of (RD.is ok kin r1 q1 (flat_of (p d List.mem_cons_self)).1)]
      rfl
theorem mem_eKey {A : Around} (hu : A.units + 64 < cLine) {C : Ct} (ok : HOk C.P C.w H s.heap) (kin : C.K.In s.heap) {x : D} {v : Value} (hv : NestedIs s.heap x.key v) (hx : x.key.depth ≤ 8) : ∀ {ds : List D} {xs : List V} {us : List Value}, RDs C H ds xs → Vals xs us → (∀ d ∈ ds, d.flat = true) → ∀ u ∈ us, SeqAt.EqAt A s u v (eKey s.heap x.key u)
  | [], xs, us, r, q, _ => by rw [show xs = [] from r] at q; cases q; exact fun _ h => nomatch h
  | d :: ds, xs, us, r, q, p => by
    obtain ⟨y, l, rfl, r1, r2⟩ := r
    cases q with
    | cons q1 q2 =>
      intro u hm
      rcases List.mem_cons.mp hm with e | hm
      · rw [e]
        obtain ⟨pd, dd⟩ := flat_of (p d List.mem_cons_self)
        have hd := RD.is ok kin r1 q1 pd
        rw [eKey_of hd]
        exact eqAt_key _ _ A s _ v hd hv (by omega)
      · exact mem_eKey hu ok kin hv hx r2 q2 (fun z hz => p z (List.mem_cons_of_mem _ hz)) u hm

def cop : COp → CmpOp
  | .eq => .Eq
  | .ne => .NotEq
  | .lt => .Lt
  | .le => .LtE
  | .gt => .Gt
  | .ge => .GtE
  | .isIn => .In
  | .notIn => .NotIn
  | .is => .Is
  | .isNot => .IsNot
/-- a comparison is at its end -/
theorem ep_bl {Q : Post} (I : I3 (ct X ca) X M0 pins σ3 M σ H s) {b : Bool} {s' : Shared} (J : Inv X pins σ H s') (q : Q (.bl b) M) : EP3 (ct X ca) X M0 pins σ3 σ H M Q (.bool b) s' := ep_now (v := .bl b) (d := .bl b) I J rfl rfl q

theorem o_eq (hu : X.A.units + 64 < cLine) (sy : SysD X.K) : Op3 ca X (compareOp .Eq) (fun x y M Q => wpEq x y M fun r => Q (.bl r) M) := by
  intro pins s σ H M0 M σ3 x y a b v u Q I ra rb hx hy h
  have flat : (x.flat = true ∧ y.flat = true) ∧ Q (.bl (x.eqv y)) M → wpAny (model X.prog X.w) X.A (compareOp .Eq v u) (EP3 (ct X ca) X M0 pins σ3 σ H M Q) X.xe s := fun ⟨⟨f1, f2⟩, q⟩ =>
    rc_flat hu I hx hy ra rb f1 f2 _ _ _ _ (ep_bl I I.inv q)
  cases x with
  | ref p => cases y with
    | ref q =>
      obtain ⟨d, e, h1, h2, sd, se, q⟩ := h
      obtain ⟨as, r1, _⟩ := h1.reads sy I hx ra
      obtain ⟨bs, r2, _⟩ := h2.reads sy I hy rb
      exact SeqAt.compareEq_shaped r1 r2 sd se hu (ep_bl I I.inv q)
    | _ => exact flat h
  | _ => exact flat h
theorem o_ne (hu : X.A.units + 64 < cLine) (sy : SysD X.K) : Op3 ca X (compareOp .NotEq) (fun x y M Q => wpEq x y M fun r => Q (.bl (!r)) M) := by
  intro pins s σ H M0 M σ3 x y a b v u Q I ra rb hx hy h
  have flat : (x.flat = true ∧ y.flat = true) ∧ Q (.bl (!x.eqv y)) M → wpAny (model X.prog X.w) X.A (compareOp .NotEq v u) (EP3 (ct X ca) X M0 pins σ3 σ H M Q) X.xe s := fun ⟨⟨f1, f2⟩, q⟩ =>
    rcNe_flat hu I hx hy ra rb f1 f2 _ _ _ _ (ep_bl I I.inv q)
  cases x with
  | ref p => cases y with
    | ref q =>
      obtain ⟨d, e, h1, h2, sd, se, q⟩ := h
      obtain ⟨as, r1, _⟩ := h1.reads sy I hx ra
      obtain ⟨bs, r2, _⟩ := h2.reads sy I hy rb
      exact SeqAt.compareNe_shaped r1 r2 sd se hu (ep_bl I I.inv q)
    | _ => exact flat h
  | _ => exact flat h
theorem str1 {x : Str} (h : x.length = 1) : x = ⟨#[x.cps.getD 0 0]⟩ := by
  obtain ⟨cps⟩ := x
  have h' : cps.size = 1 := h
  congr 1
  apply Array.ext
  · simpa using h'
  · intro i h1 h2
    have : i = 0 := by omega
    subst this
    simp [Array.getD, h1]
theorem o_in (hu : X.A.units + 80 < cLine) : Op3 ca X (compareOp .In) (fun x y M Q => wpIn x y M fun r => Q (.bl r) M) := by
  intro pins s σ H M0 M σ3 x y a b v u Q I ra rb hx hy h
  cases y with
  | tup ds =>
    obtain ⟨⟨fx, fd⟩, q⟩ := h
    obtain ⟨p, xs, rfl, hq, rs⟩ := hy
    cases rb
    obtain ⟨its, r, pl, hz⟩ := I.inv.tuple hq.sq
    obtain ⟨px, dx⟩ := flat_of fx
    refine SeqAt.in_tupleAt (eKey s.heap x.key) pl (fun w hw => mem_eKey (by have e : X.A.in1.units = X.A.units + 1 := rfl; omega) I.ok I.kin (RD.is I.ok I.kin hx ra px) dx rs r fd w (by simpa using hw)) (ep_bl I I.inv ?_)
    rw [show its.toArray.any (eKey s.heap x.key) = its.any (eKey s.heap x.key) by simp, any_eKey I.ok I.kin rs r fd]
    exact q
  | kt ds =>
    obtain ⟨⟨fx, fd⟩, q⟩ := h
    obtain ⟨p, xs, rfl, hq, rs⟩ := hy
    cases rb
    obtain ⟨its, r, pl, hz⟩ := I.inv.tuple (sqk hq)
    obtain ⟨px, dx⟩ := flat_of fx
    refine SeqAt.in_tupleAt (eKey s.heap x.key) pl (fun w hw => mem_eKey (by have e : X.A.in1.units = X.A.units + 1 := rfl; omega) I.ok I.kin (RD.is I.ok I.kin hx ra px) dx rs r fd w (by simpa using hw)) (ep_bl I I.inv ?_)
    rw [show its.toArray.any (eKey s.heap x.key) = its.any (eKey s.heap x.key) by simp, any_eKey I.ok I.kin rs r fd]
    exact q
  | str z => cases x with
    | str x =>
      obtain ⟨h1, q⟩ := h
      rw [show a = .str x from hx] at ra
      rw [show b = .str z from hy] at rb
      refine thn (op_in_sign pins s σ H _ _ v u (QV (ct X ca) H M Q) I.inv ra rb ⟨x.cps.getD 0 0, z, by rw [← str1 h1], rfl, qv_bl I.hp q⟩) fun _ _ e => ep_of I e
    | _ => exact h.elim
  | ref p =>
    rw [show b = .ref p from hy] at rb
    cases rb
    have h' : (match M p with
      | some (.lst ds) => (x.flat = true ∧ (∀ d ∈ ds, d.flat = true)) ∧ Q (.bl (ds.any fun z => z.eqv x)) M
      | some (.dct kvs) => x.hk1 = true ∧ Q (.bl (dhas kvs x)) M
      | some (.lck kvs) => x.hk1 = true ∧ Q (.bl (dhas kvs x)) M
      | some (.dcT kvs) => x.hkT = true ∧ Q (.bl (dhas kvs x)) M
      | some (.lkT kvs) => x.hkT = true ∧ Q (.bl (dhas kvs x)) M
      | _ => False) := h
    cases e : M p with
    | none => rw [e] at h'; exact h'.elim
    | some o =>
      rw [e] at h'
      cases o with
      | lst ds =>
        obtain ⟨⟨fx, fd⟩, q⟩ := h'
        obtain ⟨xs, hxs, rs⟩ := I.hp.lst e
        obtain ⟨its, r, pl, hz⟩ := I.inv.list (SqL.of hxs)
        obtain ⟨px, dx⟩ := flat_of fx
        refine SeqAt.in_listAt (eKey s.heap x.key) pl.isList (fun w hw => mem_eKey (by have e : X.A.in1.units = X.A.units + 1 := rfl; omega) I.ok I.kin (RD.is I.ok I.kin hx ra px) dx rs r fd w (by simpa using hw)) (ep_bl I I.inv ?_)
        rw [show its.toArray.any (eKey s.heap x.key) = its.any (eKey s.heap x.key) by simp, any_eKey I.ok I.kin rs r fd]
        exact q
      | dct kvs =>
        obtain ⟨hk, q⟩ := h'
        obtain ⟨ks, hx2, pd, ty⟩ := I.dictAt e
        obtain ⟨kk, rfl, kr⟩ := key_rd hx hk
        refine d_in (by omega) I.inv (DGet.k (k := kk) hx2) ra fun s' J => ep_bl I J ?_
        rw [← (dget_val kr pd).2]
        exact q
      | lck kvs =>
        obtain ⟨hk, q⟩ := h'
        obtain ⟨ob, ks, hx2, pd, ty⟩ := I.lckAt e
        obtain ⟨kk, rfl, kr⟩ := key_rd hx hk
        refine d_in (by omega) I.inv (.inl ⟨ks, kk, .inr ⟨ob, hx2⟩, rfl, rfl⟩) ra fun s' J => ep_bl I J ?_
        rw [← (dget_val kr pd).2]
        exact q
      | dcT kvs => exact t_in (by omega) I (.inl e) hx ra h'.1 fun s' J => ep_bl I J h'.2
      | lkT kvs => exact t_in (by omega) I (.inr e) hx ra h'.1 fun s' J => ep_bl I J h'.2
      | _ => exact h'.elim
  | _ => exact h.elim
theorem o_notIn (hu : X.A.units + 80 < cLine) : Op3 ca X (compareOp .NotIn) (fun x y M Q => wpIn x y M fun r => Q (.bl (!r)) M) := by
  intro pins s σ H M0 M σ3 x y a b v u Q I ra rb hx hy h
  cases y with
  | tup ds =>
    obtain ⟨⟨fx, fd⟩, q⟩ := h
    obtain ⟨p, xs, rfl, hq, rs⟩ := hy
    cases rb
    obtain ⟨its, r, pl, hz⟩ := I.inv.tuple hq.sq
    obtain ⟨px, dx⟩ := flat_of fx
    refine SeqAt.notIn_tupleAt (eKey s.heap x.key) pl (fun w hw => mem_eKey (by have e : X.A.in1.units = X.A.units + 1 := rfl; omega) I.ok I.kin (RD.is I.ok I.kin hx ra px) dx rs r fd w (by simpa using hw)) (ep_bl I I.inv ?_)
    rw [show its.toArray.any (eKey s.heap x.key) = its.any (eKey s.heap x.key) by simp, any_eKey I.ok I.kin rs r fd]
    exact q
  | kt ds =>
    obtain ⟨⟨fx, fd⟩, q⟩ := h
    obtain ⟨p, xs, rfl, hq, rs⟩ := hy
    cases rb
    obtain ⟨its, r, pl, hz⟩ := I.inv.tuple (sqk hq)
    obtain ⟨px, dx⟩ := flat_of fx
    refine SeqAt.notIn_tupleAt (eKey s.heap x.key) pl (fun w hw => mem_eKey (by have e : X.A.in1.units = X.A.units + 1 := rfl; omega) I.ok I.kin (RD.is I.ok I.kin hx ra px) dx rs r fd w (by simpa using hw)) (ep_bl I I.inv ?_)
    rw [show its.toArray.any (eKey s.heap x.key) = its.any (eKey s.heap x.key) by simp, any_eKey I.ok I.kin rs r fd]
    exact q
  | str z => cases x with
    | str x =>
      obtain ⟨h1, q⟩ := h
      rw [show a = .str x from hx] at ra
      rw [show b = .str z from hy] at rb
      refine thn (op_notIn_sign pins s σ H _ _ v u (QV (ct X ca) H M Q) I.inv ra rb ⟨x.cps.getD 0 0, z, by rw [← str1 h1], rfl, qv_bl I.hp q⟩) fun _ _ e => ep_of I e
    | _ => exact h.elim
  | ref p =>
    rw [show b = .ref p from hy] at rb
    cases rb
    have h' : (match M p with
      | some (.lst ds) => (x.flat = true ∧ (∀ d ∈ ds, d.flat = true)) ∧ Q (.bl (!ds.any fun z => z.eqv x)) M
      | some (.dct kvs) => x.hk1 = true ∧ Q (.bl (!dhas kvs x)) M
      | some (.lck kvs) => x.hk1 = true ∧ Q (.bl (!dhas kvs x)) M
      | some (.dcT kvs) => x.hkT = true ∧ Q (.bl (!dhas kvs x)) M
      | some (.lkT kvs) => x.hkT = true ∧ Q (.bl (!dhas kvs x)) M
      | _ => False) := h
    cases e : M p with
    | none => rw [e] at h'; exact h'.elim
    | some o =>
      rw [e] at h'
      cases o with
      | lst ds =>
        obtain ⟨⟨fx, fd⟩, q⟩ := h'
        obtain ⟨xs, hxs, rs⟩ := I.hp.lst e
        obtain ⟨its, r, pl, hz⟩ := I.inv.list (SqL.of hxs)
        obtain ⟨px, dx⟩ := flat_of fx
        refine SeqAt.notIn_listAt (eKey s.heap x.key) pl.isList (fun w hw => mem_eKey (by have e : X.A.in1.units = X.A.units + 1 := rfl; omega) I.ok I.kin (RD.is I.ok I.kin hx ra px) dx rs r fd w (by simpa using hw)) (ep_bl I I.inv ?_)
        rw [show its.toArray.any (eKey s.heap x.key) = its.any (eKey s.heap x.key) by simp, any_eKey I.ok I.kin rs r fd]
        exact q
      | dct kvs =>
        obtain ⟨hk, q⟩ := h'
        obtain ⟨ks, hx2, pd, ty⟩ := I.dictAt e
        obtain ⟨kk, rfl, kr⟩ := key_rd hx hk
        refine d_notIn (by omega) I.inv (DGet.k (k := kk) hx2) ra fun s' J => ep_bl I J ?_
        rw [← (dget_val kr pd).2]
        exact q
      | lck kvs =>
        obtain ⟨hk, q⟩ := h'
        obtain ⟨ob, ks, hx2, pd, ty⟩ := I.lckAt e
        obtain ⟨kk, rfl, kr⟩ := key_rd hx hk
        refine d_notIn (by omega) I.inv (.inl ⟨ks, kk, .inr ⟨ob, hx2⟩, rfl, rfl⟩) ra fun s' J => ep_bl I J ?_
        rw [← (dget_val kr pd).2]
        exact q
      | dcT kvs => exact t_notIn (by omega) I (.inl e) hx ra h'.1 fun s' J => ep_bl I J h'.2
      | lkT kvs => exact t_notIn (by omega) I (.inr e) hx ra h'.1 fun s' J => ep_bl I J h'.2
      | _ => exact h'.elim
  | _ => exact h.elim
theorem RD.decN {C : Ct} {x : D} {v : V} (r : RD C H x v) (hx : ∀ c ds, x ≠ .exn c ds) : decide (v = .non) = x.isNon := by
  cases x with
  | non => have e : v = .non := r; subst e; rfl
  | tup ds => obtain ⟨a, xs, rfl, _⟩ := r; rfl
  | kl ds => obtain ⟨a, xs, rfl, _⟩ := r; rfl
  | kt ds => obtain ⟨a, xs, rfl, _⟩ := r; rfl
  | exn c ds => exact absurd rfl (hx c ds)
  | bl b => have e : v = .bl b := r; subst e; rfl
  | int b => have e : v = .int b := r; subst e; rfl
  | str b => have e : v = .str b := r; subst e; rfl
  | ref b => have e : v = .ref b := r; subst e; rfl
theorem isC {x y : D} {k : Bool → Prop} (h : wpCmp .is x y M k) : (∃ a b, x = .bl a ∧ y = .bl b ∧ k (a == b)) ∨ (y = .non ∧ k x.isNon) := by
  cases y with
  | non => exact .inr ⟨rfl, by cases x <;> exact h⟩
  | bl b => cases x with
    | bl a => exact .inl ⟨a, b, rfl, rfl, h⟩
    | _ => exact h.elim
  | _ => cases x <;> exact False.elim h
theorem isNotC {x y : D} {k : Bool → Prop} (h : wpCmp .isNot x y M k) : (∃ a b, x = .bl a ∧ y = .bl b ∧ k (!(a == b))) ∨ (y = .non ∧ k (!x.isNon)) := by
  cases y with
  | non => exact .inr ⟨rfl, by cases x <;> exact h⟩
  | bl b => cases x with
    | bl a => exact .inl ⟨a, b, rfl, rfl, h⟩
    | _ => exact h.elim
  | _ => cases x <;> exact False.elim h
theorem RD.noexn {C : Ct} {x : D} {v : V} (r : RD C H x v) : ∀ c ds, x ≠ .exn c ds := fun c ds e => by
  subst e
  exact False.elim r
theorem o_is : Op3 ca X (compareOp .Is) (fun x y M Q => wpCmp .is x y M fun r => Q (.bl r) M) := by
  intro pins s σ H M0 M σ3 x y a b v u Q I ra rb hx hy h
  rcases isC h with ⟨c, d, rfl, rfl, q⟩ | ⟨rfl, q⟩
  · rw [show a = .bl c from hx] at ra
    rw [show b = .bl d from hy] at rb
    refine thn (op_isBl pins s σ H _ _ v u (QV (ct X ca) H M Q) I.inv ra rb ⟨c, d, rfl, rfl, ?_⟩) fun _ _ e => ep_of I e
    have : decide (c = d) = (c == d) := by cases c <;> cases d <;> rfl
    rw [this]
    exact qv_bl I.hp q
  · rw [show b = .non from hy] at rb
    refine thn (op_isN pins s σ H _ _ v u (QV (ct X ca) H M Q) I.inv ra rb ⟨rfl, ?_⟩) fun _ _ e => ep_of I e
    rw [hx.decN hx.noexn]
    exact qv_bl I.hp q
theorem o_isNot : Op3 ca X (compareOp .IsNot) (fun x y M Q => wpCmp .isNot x y M fun r => Q (.bl r) M) := by
  intro pins s σ H M0 M σ3 x y a b v u Q I ra rb hx hy h
  rcases isNotC h with ⟨c, d, rfl, rfl, q⟩ | ⟨rfl, q⟩
  · rw [show a = .bl c from hx] at ra
    rw [show b = .bl d from hy] at rb
    refine thn (op_notBl pins s σ H _ _ v u (QV (ct X ca) H M Q) I.inv ra rb ⟨c, d, rfl, rfl, ?_⟩) fun _ _ e => ep_of I e
    have : decide (c = d) = (c == d) := by cases c <;> cases d <;> rfl
    rw [this]
    exact qv_bl I.hp q
  · rw [show b = .non from hy] at rb
    refine thn (op_notN pins s σ H _ _ v u (QV (ct X ca) H M Q) I.inv ra rb ⟨rfl, ?_⟩) fun _ _ e => ep_of I e
    rw [hx.decN hx.noexn]
    exact qv_bl I.hp q
theorem o_lt : Op3 ca X (compareOp .Lt) (fun x y M Q => wpCmp .lt x y M fun r => Q (.bl r) M) := op3_of op_lt fun H M x y a b Q r hx hy h => by
  cases x with
  | int i => cases y with
    | int j => exact ⟨i, j, hx, hy, qv_bl r h⟩
    | _ => exact h.elim
  | _ => exact h.elim
theorem o_le : Op3 ca X (compareOp .LtE) (fun x y M Q => wpCmp .le x y M fun r => Q (.bl r) M) := op3_of op_le fun H M x y a b Q r hx hy h => by
  cases x with
  | int i => cases y with
    | int j => exact ⟨i, j, hx, hy, qv_bl r h⟩
    | _ => exact h.elim
  | _ => exact h.elim
theorem o_gt : Op3 ca X (compareOp .Gt) (fun x y M Q => wpCmp .gt x y M fun r => Q (.bl r) M) := op3_of op_gt fun H M x y a b Q r hx hy h => by
  cases x with
  | int i => cases y with
    | int j => exact ⟨i, j, hx, hy, qv_bl r h⟩
    | _ => exact h.elim
  | _ => exact h.elim
theorem o_ge : Op3 ca X (compareOp .GtE) (fun x y M Q => wpCmp .ge x y M fun r => Q (.bl r) M) := op3_of op_ge fun H M x y a b Q r hx hy h => by
  cases x with
  | int i => cases y with
    | int j => exact ⟨i, j, hx, hy, qv_bl r h⟩
    | _ => exact h.elim
  | _ => exact h.elim
theorem o_cmp (hu : X.A.units + 80 < cLine) (sy : SysD X.K) (o : COp) : Op3 ca X (compareOp (cop o)) (fun x y M Q => wpCmp o x y M fun r => Q (.bl r) M) := by
  cases o with
  | eq => exact o_eq (by omega) sy
  | ne => exact o_ne (by omega) sy
  | lt => exact o_lt
  | le => exact o_le
  | gt => exact o_gt
  | ge => exact o_ge
  | isIn => exact o_in hu
  | notIn => exact o_notIn hu
  | is => exact o_is
  | isNot => exact o_isNot
/-! ### truth -/
theorem o_tru {x : D} {a : V} {v : Value} {k : Bool → Mp → Prop} (I : I3 (ct X ca) X M0 pins σ3 M σ H s) (ra : RelV a v) (hx : RD (ct X ca) H x a) (h : truthy x M fun b => k b M) : wpAny (model X.prog X.w) X.A (PySem.truthy v) (TP3 (ct X ca) X M0 pins σ3 σ H M k) X.xe s := by
  have fin : ∀ {b : Bool}, TruV X.K a H b → k b M → wpAny (model X.prog X.w) X.A (PySem.truthy v) (TP3 (ct X ca) X M0 pins σ3 σ H M k) X.xe s := fun {b} ht hk =>
    thn (tru_ok pins s σ H a v (fun c H' => H' = H ∧ c = b) I.inv ra ⟨b, ht, rfl, rfl⟩) fun c s' ⟨H', J, e1, e2⟩ => by
      subst e1; subst e2
      exact ⟨M, H', I.same J, Stp.refl, hk⟩
  cases x with
  | non => have e : a = .non := hx; subst e; exact fin (b := false) rfl h
  | bl b => have e : a = .bl b := hx; subst e; exact fin (b := b) rfl h
  | int i => have e : a = .int i := hx; subst e; exact fin (b := i != 0) rfl h
  | str x =>
    have e : a = .str x := hx; subst e
    refine fin (b := x.length != 0) ⟨h.1, ?_⟩ h.2
    rw [Bool.eq_iff_iff]; simp
  | tup ds =>
    obtain ⟨p, xs, rfl, hq, rs⟩ := hx
    refine fin (b := !ds.isEmpty) (.inr (.inl ⟨xs, hq.sq, ?_⟩)) h
    have := rs.length
    cases ds <;> cases xs <;> simp_all
  | ref p =>
    have e : a = .ref p := hx; subst e
    have h' : (match M p with
      | some (.lst ds) => k (!ds.isEmpty) M
      | some (.dct kvs) => k (!kvs.isEmpty) M
      | some (.dcT kvs) => k (!kvs.isEmpty) M
      | _ => False) := h
    cases e : M p with
    | none => rw [e] at h'; exact h'.elim
    | some o =>
      rw [e] at h'
      cases o with
      | lst ds =>
        obtain ⟨xs, hxs, rs⟩ := I.hp.lst e
        refine fin (b := !ds.isEmpty) (.inl ⟨xs, SqL.of hxs, ?_⟩) h'
        have := rs.length
        cases ds <;> cases xs <;> simp_all
      | dct kvs =>
        cases ra
        obtain ⟨ks, hx2, pd, ty⟩ := I.dictAt e
        refine d_truth I.inv (.inl hx2) fun s' J => ⟨M, H, I.same J, Stp.refl, ?_⟩
        have e1 : kvs.isEmpty = ks.isEmpty := by
          have := pd.len
          cases kvs <;> cases ks <;> simp_all
        rw [← e1]
        exact h'
      | dcT kvs =>
        cases ra
        obtain ⟨hs, es, ep, hr, l1, hf⟩ := I.dtRaw (.inl e)
        refine L3.truthy_dictR hs hr hf ?_
        have e1 : kvs.isEmpty = es.isEmpty := by
          have : es.isEmpty = decide (es.size = 0) := rfl
          rw [this, l1]
          cases kvs <;> simp
        rw [← e1]
        exact ⟨M, H, I.same (I.inv.tok _), Stp.refl, h'⟩
      | _ => exact h'.elim
  | kl ds => exact h.elim
  | kt ds => exact h.elim
  | exn c ds => exact h.elim
/-! ### one place -/
theorem o_neg {x : D} {a : V} {v : Value} {Q : Post} (I : I3 (ct X ca) X M0 pins σ3 M σ H s) (ra : RelV a v) (hx : RD (ct X ca) H x a) (h : wpUn .neg x M Q) : wpAny (model X.prog X.w) X.A (unaryOp .USub v) (EP3 (ct X ca) X M0 pins σ3 σ H M Q) X.xe s := by
  cases x with
  | int i => exact thn (un_neg pins s σ H a v (QV (ct X ca) H M Q) I.inv ra ⟨i, hx, qv_int I.hp h⟩) fun _ _ e => ep_of I e
  | _ => exact h.elim
/-! ### subscripts -/
theorem atD_atI {α : Type} {ds : List D} {xs : List α} (hl : ds.length = xs.length) {i : Int} {d : D} (h : atD ds i = some d) : ∃ j : Nat, ds[j]? = some d ∧ ixN xs.length i = some j ∧ j < xs.length := by
  unfold atD at h
  by_cases h0 : 0 ≤ i
  · rw [if_pos h0] at h
    obtain ⟨hj, _⟩ := List.getElem?_eq_some_iff.mp h
    refine ⟨i.toNat, h, ?_, by omega⟩
    unfold ixN
    rw [if_pos h0, if_pos (by omega)]
  · rw [if_neg h0] at h
    by_cases h1 : 0 ≤ i + ds.length
    · rw [if_pos h1] at h
      refine ⟨(i + ds.length).toNat, h, ?_, by omega⟩
      unfold ixN
      rw [if_neg h0, if_pos (by omega), hl]
    · rw [if_neg h1] at h
      cases h
theorem o_ix (hu : X.A.units + 10 < cLine) {value slice : Expr} {x y : D} {a b : V} {v u : Value} {Q : Post} (I : I3 (ct X ca) X M0 pins σ3 M σ H s) (ra : RelV a v) (rb : RelV b u) (hx : RD (ct X ca) H x a) (hy : RD (ct X ca) H y b) (h : wpIx x y M Q)
    (hs : subscripted slice false v u = operate [v, u] (getItem v u)) : wpAny (model X.prog X.w) X.A (subscriptTail value slice v u) (EP3 (ct X ca) X M0 pins σ3 σ H M Q) X.xe s := by
  have at_ : ∀ {ds : List D} {xs : List V} {i : Int} {d : D}, RDs (ct X ca) H ds xs → atD ds i = some d → ∃ w, atI xs i = some w ∧ RD (ct X ca) H d w := fun {ds xs i d} rs e => by
    obtain ⟨j, h1, h2, h3⟩ := atD_atI rs.length e
    obtain ⟨w, h4, h5⟩ := rs.get h1
    exact ⟨w, by unfold atI; rw [h2]; exact h4, h5⟩
  cases x with
  | tup ds => cases y with
    | int i =>
      obtain ⟨d, e, q⟩ := h
      obtain ⟨p, xs, rfl, hq, rs⟩ := hx
      obtain ⟨w, h4, h5⟩ := at_ rs e
      exact thn (ix_tup value slice pins s σ H _ b v u (QV (ct X ca) H M Q) I.inv ra rb ⟨p, xs, i, w, rfl, hy, hq.sq, h4, qv_now I.hp h5 q⟩ hs) fun _ _ e => ep_of I e
    | _ => exact h.elim
  | kt ds => cases y with
    | int i =>
      obtain ⟨d, e, q⟩ := h
      obtain ⟨p, xs, rfl, hq, rs⟩ := hx
      obtain ⟨w, h4, h5⟩ := at_ rs e
      exact thn (ix_tup value slice pins s σ H _ b v u (QV (ct X ca) H M Q) I.inv ra rb ⟨p, xs, i, w, rfl, hy, sqk hq, h4, qv_now I.hp h5 q⟩ hs) fun _ _ e => ep_of I e
    | _ => exact h.elim
  | str z => cases y with
    | int i =>
      obtain ⟨c, hz, e, q⟩ := h
      obtain ⟨j, h1, h2, h3⟩ := atD_atI (xs := z.cps.toList) (by rw [List.length_map]) e
      rw [List.getElem?_map] at h1
      cases g : z.cps.toList[j]? with
      | none => rw [g] at h1; cases h1
      | some k =>
        rw [g] at h1
        cases h1
        exact thn (ix_str value slice pins s σ H a b v u (QV (ct X ca) H M Q) I.inv ra rb ⟨z, i, k, hx, hy, hz, by unfold atI; rw [h2]; exact g, qv_str I.hp q⟩ hs) fun _ _ e => ep_of I e
    | _ => exact h.elim
  | kl ds => cases y with
    | int i =>
      obtain ⟨d, e1, q⟩ := h
      obtain ⟨p, xs, rfl, hq, rs⟩ := hx
      obtain ⟨w, h4, h5⟩ := at_ rs e1
      exact thn (ix_list value slice pins s σ H _ b v u (QV (ct X ca) H M Q) I.inv ra rb ⟨p, xs, i, w, rfl, hy, hq.sq, h4, qv_now I.hp h5 q⟩ hs) fun _ _ e => ep_of I e
    | _ => exact h.elim
  | ref p =>
    have e : a = .ref p := hx; subst e
    cases e : M p with
    | none => simp only [wpIx, e] at h
    | some o =>
      cases o with
      | lst ds => cases y with
        | int i =>
          simp only [wpIx, e] at h
          obtain ⟨d, e1, q⟩ := h
          obtain ⟨xs, hxs, rs⟩ := I.hp.lst e
          obtain ⟨w, h4, h5⟩ := at_ rs e1
          exact thn (ix_list value slice pins s σ H _ b v u (QV (ct X ca) H M Q) I.inv ra rb ⟨p, xs, i, w, rfl, hy, SqL.of hxs, h4, qv_now I.hp h5 q⟩ hs) fun _ _ e => ep_of I e
        | _ => simp only [wpIx, e] at h
      | dct kvs =>
        simp only [wpIx, e] at h
        obtain ⟨hk, d, hd, q⟩ := h
        obtain ⟨ks, hx2, pd, ty⟩ := I.dictAt e
        obtain ⟨kk, rfl, kr⟩ := key_rd hy hk
        obtain ⟨w, h4, h5⟩ := (dget_val kr pd).1 d hd
        cases ra
        refine tail_dict ty hs (d_getItem (by omega) I.inv (v := w) ?_ rb fun w' s' J rw' => ep_now I J rw' h5 q)
        rw [← h4]
        exact DGet.k hx2
      | lck kvs =>
        simp only [wpIx, e] at h
        obtain ⟨hk, d, hd, q⟩ := h
        obtain ⟨ob, ks, hx2, pd, ty⟩ := I.lckAt e
        obtain ⟨kk, rfl, kr⟩ := key_rd hy hk
        obtain ⟨w, h4, h5⟩ := (dget_val kr pd).1 d hd
        cases ra
        refine tail_dict ty hs (d_getItem (by omega) I.inv (v := w) ?_ rb fun w' s' J rw' => ep_now I J rw' h5 q)
        rw [← h4]
        exact .inl ⟨ks, kk, .inr ⟨ob, hx2⟩, rfl, rfl⟩
      | dcT kvs =>
        simp only [wpIx, e] at h
        obtain ⟨hk, d, hd, q⟩ := h
        cases ra
        obtain ⟨_, _, _, us, _, _, _, _, dd⟩ := I.dtAt (.inl e)
        exact tail_dict dd.typeIs hs (t_getItem (by omega) I (.inl e) hy rb hk hd fun w w' s' J rw1 rw2 => ep_now I J rw2 rw1 q)
      | lkT kvs =>
        simp only [wpIx, e] at h
        obtain ⟨hk, d, hd, q⟩ := h
        cases ra
        obtain ⟨_, _, _, us, _, _, _, _, dd⟩ := I.dtAt (.inr e)
        exact tail_dict dd.typeIs hs (t_getItem (by omega) I (.inr e) hy rb hk hd fun w w' s' J rw1 rw2 => ep_now I J rw2 rw1 q)
      | _ => simp only [wpIx, e] at h
  | _ => exact h.elim
end
end L3
end
section
set_option autoImplicit false
set_option linter.all false
set_option maxRecDepth 100000
/-! L3: sorted -/
namespace L3
open PySem L2 PyProof.Rows

abbrev EachIs {α β : Type} (R : α → β → Prop) := @PySem.W.EachIs α β R
/-! ### pure values are data -/
mutual
theorem pure_deep {M : Mp} : ∀ {d : D}, d.pure = true → Deep M d d.py
  | .non, _ => .non
  | .bl b, _ => .bl b
  | .int i, _ => .int i
  | .str x, _ => .str x
  | .tup ds, h => .tup (pures_deep h)
  | .kt ds, h => .kt (pures_deep h)
  | .ref _, h => absurd h Bool.false_ne_true
  | .exn _ _, h => absurd h Bool.false_ne_true
  | .kl _, h => absurd h Bool.false_ne_true
theorem pures_deep {M : Mp} : ∀ {ds : List D}, D.pures ds = true → Deeps M ds (D.pys ds)
  | [], _ => .nil
  | d :: ds, h => by
    have h' : (d.pure && D.pures ds) = true := h
    rw [Bool.and_eq_true] at h'
    exact .cons (pure_deep h'.1) (pures_deep h'.2)
end
/-! ### pairs whose keys can be compared, no two the same -/
section
variable {prog : Program} {w : World} {A : Around} {s : Shared}
abbrev pairPy (p : PyData × PyData) : PyData := .tuple [p.1, p.2]
/-- the kind of keys that the pairs ps make -/
noncomputable def pairKind (h : Heap) (ps : List (PyData × PyData)) : PyProof.Rows.KeyKind where
  toKeyOrd := listOrd itemOrd
  keyOf v := open Classical in if q : ∃ p, p ∈ ps ∧ ∃ as, Reads h v (pairPy p) as then some (PySem.W.keyToks q.choose.1) else none
  dflt := ([] : List (Int ⊕ List Nat))
def KeysAlike (ps : List (PyData × PyData)) : Prop := (∀ p ∈ ps, ∀ q ∈ ps, PySem.W.alike p.1 q.1 = true) ∧ ∀ p ∈ ps, p.1 ≠ .none
theorem reads_fst {h : Heap} {v : Value} {p q : PyData × PyData} {as bs : List Addr} (hal : PySem.W.alike p.1 q.1 = true) (r : Reads h v (pairPy p) as) (r' : Reads h v (pairPy q) bs) : p.1 = q.1 := by
  cases r with
  | @tuple a o xs n _ _ ho hc hd hr =>
    cases r' with
    | @tuple a' o' xs' n' _ _ ho' hc' hd' hr' =>
      rw [ho] at ho'
      cases ho'
      rw [hd] at hd'
      cases hd'
      generalize xs.toList = l at hr hr'
      cases hr with
      | cons r1 r2 =>
        cases hr' with
        | cons r1' r2' => exact PySem.W.alike_unique _ _ _ _ _ hal r1 r1'
theorem pairKind_some {h : Heap} {ps : List (PyData × PyData)} (hal : KeysAlike ps) {v : Value} {p : PyData × PyData} {as : List Addr} (hp : p ∈ ps) (r : Reads h v (pairPy p) as) : (pairKind h ps).keyOf v = some (PySem.W.keyToks p.1) := by
  have q : ∃ p, p ∈ ps ∧ ∃ as, Reads h v (pairPy p) as := ⟨p, hp, as, r⟩
  have e : (pairKind h ps).keyOf v = some (PySem.W.keyToks q.choose.1) := by
    show (open Classical in if q : ∃ p, p ∈ ps ∧ ∃ as, Reads h v (pairPy p) as then some (PySem.W.keyToks q.choose.1) else none) = _
    rw [dif_pos q]
  obtain ⟨h1, as', h2⟩ := q.choose_spec
  rw [e, reads_fst (hal.1 _ h1 _ hp) h2 r]
theorem pairKind_inv {h : Heap} {ps : List (PyData × PyData)} {v : Value} {k : List (Int ⊕ List Nat)} (e : (pairKind h ps).keyOf v = some k) : ∃ p as, p ∈ ps ∧ Reads h v (pairPy p) as ∧ k = PySem.W.keyToks p.1 := by
  by_cases q : ∃ p, p ∈ ps ∧ ∃ as, Reads h v (pairPy p) as
  · have e' : (pairKind h ps).keyOf v = some (PySem.W.keyToks q.choose.1) := by
      show (open Classical in if q : ∃ p, p ∈ ps ∧ ∃ as, Reads h v (pairPy p) as then some (PySem.W.keyToks q.choose.1) else none) = _
      rw [dif_pos q]
    obtain ⟨h1, as', h2⟩ := q.choose_spec
    rw [e'] at e
    exact ⟨_, as', h1, h2, (Option.some.inj e).symm⟩
  · have e' : (pairKind h ps).keyOf v = none := by
      show (open Classical in if q : ∃ p, p ∈ ps ∧ ∃ as, Reads h v (pairPy p) as then some (PySem.W.keyToks q.choose.1) else none) = _
      rw [dif_neg q]
      rfl
    rw [e'] at e
    exact absurd e (by simp)
theorem sortsPairs {vs : List Value} {ps : List (PyData × PyData)} (e : EachIs (fun v p => ∃ as, Reads s.heap v (pairPy p) as) vs ps) (hal : KeysAlike ps) (hpw : ∀ p ∈ ps, ∀ q ∈ ps, PyData.eqv p.1 q.1 = true → p = q) (hself : ∀ p ∈ ps, PySem.W.alike p.2 p.2 = true)
    (hu : ∀ p ∈ ps, A.units + p.1.depth + 1 < cLine ∧ A.units + p.2.depth + 1 < cLine) : PySem.W.SortsAt prog w A s (pairKind s.heap ps) vs := by
  refine ⟨fun v hv => ?_, ?_⟩
  · obtain ⟨d, hd, as, r⟩ := e.left v hv
    exact ⟨_, pairKind_some hal hd r⟩
  · cases ps with
    | nil =>
      cases e
      exact ⟨general', fun E x y a b Q ha _ _ => (by
        obtain ⟨d, _, hd, _⟩ := pairKind_inv ha
        exact absurd hd (by simp)), fun h2 => absurd h2 (by simp)⟩
    | cons p₀ ps₀ =>
      refine ⟨tuples' (PySem.W.dataType p₀.1 != Value.type "tuple"), ?_, fun h2 E Q hq => ?_⟩
      · intro E x y a b Q ha hb hq
        obtain ⟨p, as, hp, ra, rfl⟩ := pairKind_inv ha
        obtain ⟨p', as', hp', rb, rfl⟩ := pairKind_inv hb
        have hq' : Q (PySem.W.dataLt p.1 p'.1) s := hq
        have al := hal.1 p hp p' hp'
        obtain ⟨u1, u2⟩ := hu p hp
        obtain ⟨u3, u4⟩ := hu p' hp'
        cases ra with
        | @tuple l o xs n _ _ h1 h2 h3 h4 =>
          cases rb with
          | @tuple l' o' xs' n' _ _ k1 k2 k3 k4 =>
            have n1 : xs.size = 2 := by simpa using SeqAt.ReadsAll.length _ _ _ h4
            have n2 : xs'.size = 2 := by simpa using SeqAt.ReadsAll.length _ _ _ k4
            refine PySem.W.kat_lt h1 h3 k1 k3 ?_
            rw [n1, n2]
            generalize xs.toList = lx at h4
            generalize xs'.toList = ly at k4
            cases h4 with
            | @cons v1 vr _ _ a1 a2 r1 r2 =>
              cases r2 with
              | @cons v2 vr2 _ _ a3 a4 r3 r4 =>
                cases r4
                cases k4 with
                | @cons w1 wr _ _ b1 b2 q1 q2 =>
                  cases q2 with
                  | @cons w2 wr2 _ _ b3 b4 q3 q4 =>
                    cases q4
                    show PySem.W.KatLex prog w A _ (decide (2 < 2)) Q [(v1, w1), (v2, w2)] 0 s
                    refine PySem.W.kat_cons (PySem.W.eqAt_alike p.1 p'.1 A s v1 w1 _ _ r1 q1 al (by have := Nat.min_le_left p.1.depth p'.1.depth; omega) _ _ _ _ ?_)
                    refine PySem.W.kat_go (fun e1 => ?_) (fun e1 => ?_)
                    · have e2 : p = p' := hpw p hp p' hp' e1
                      subst e2
                      have irr : PySem.W.dataLt p.1 p.1 = false := lex_irrefl _
                      rw [irr] at hq'
                      refine PySem.W.kat_yes (PySem.W.kat_cons (PySem.W.eqAt_alike p.2 p.2 A s v2 w2 _ _ r3 q3 (hself p hp) (by have := Nat.min_le_left p.2.depth p.2.depth; omega) _ _ _ _ ?_))
                      rw [PySem.W.eqv_refl_alike _ (hself p hp)]
                      exact PySem.W.kat_yes (PySem.W.kat_nil hq')
                    · refine PySem.W.kat_no (PySem.W.oneLt_alike (fun hf xs' ex => ?_) r1 q1 al (hal.2 p hp) (by have := Nat.min_le_left p.1.depth p'.1.depth; omega) hq')
                      have hf' : (PySem.W.dataType p₀.1 != Value.type "tuple") = true := by
                        rw [Bool.and_eq_true] at hf
                        exact hf.1
                      rw [PySem.W.dataType_alike (hal.1 p₀ List.mem_cons_self p hp)] at hf'
                      exact PySem.W.dataType_tuple hf' xs' ex
      · obtain ⟨fs, t1, t2, t3⟩ := PySem.W.each_katTups (ds := (p₀ :: ps₀).map pairPy) (PySem.W.each_map (R := fun v d => ∃ as, Reads s.heap v d as) pairPy e) (fun d hd => by
          obtain ⟨p, hp, rfl⟩ := List.mem_map.mp hd
          exact ⟨p.1, [p.2], rfl⟩)
        refine PySem.W.kat_kind (T := PySem.W.dataType p₀.1) t1 (by rw [t2]; omega) (fun f hf => ?_) (beq_self_eq_true _) hq
        obtain ⟨x, r, as, m1, m2⟩ := t3 f hf
        obtain ⟨p, hp, ep⟩ := List.mem_map.mp m1
        have ex : p.1 = x := by
          have := PyData.tuple.inj ep
          injection this
        subst ex
        rw [← PySem.W.dataType_alike (hal.1 p hp p₀ List.mem_cons_self)]
        exact PySem.W.looks_reads m2
end
/-! ### the sort of a new list -/
section
variable {ca : Nat → Addr} {X : Cx} {M0 M : Mp} {pins : List (Addr × Obj)} {σ3 : Lo} {σ : L2.St} {H : Hp} {s : Shared} {A : Around} {E : Value → Shared → Prop}
theorem each_zip {C : Ct} {R : Value → D → Prop} : ∀ {ds : List D} {ws : List V} {us : List Value}, RDs C H ds ws → Vals ws us → EachIs R us ds → EachIs (fun v (b : D × V) => R v b.1 ∧ RelV b.2 v ∧ RD C H b.1 b.2) us (ds.zip ws)
  | [], ws, us, r, q, e => by
    rw [show ws = [] from r] at q; cases q; exact .nil
  | d :: ds, ws, us, r, q, e => by
    obtain ⟨x, l, rfl, r1, r2⟩ := r
    cases q with
    | cons q1 q2 =>
      cases e with
      | cons e1 e2 => exact .cons ⟨e1, q1, r1⟩ (each_zip r2 q2 e2)
theorem zip_fst {C : Ct} : ∀ {ds : List D} {ws : List V}, RDs C H ds ws → (ds.zip ws).map (·.1) = ds
  | [], ws, r => rfl
  | d :: ds, ws, r => by
    obtain ⟨x, l, rfl, r1, r2⟩ := r
    show d :: (ds.zip l).map (·.1) = d :: ds
    rw [zip_fst r2]
theorem each_out {C : Ct} : ∀ {bs : List (D × V)} {us : List Value}, EachIs (fun v (b : D × V) => RelV b.2 v ∧ RD C H b.1 b.2) us bs → Vals (bs.map (·.2)) us ∧ RDs C H (bs.map (·.1)) (bs.map (·.2))
  | _, _, .nil => ⟨.nil, rfl⟩
  | _, _, .cons h t => ⟨.cons h.1 (each_out t).1, _, _, rfl, h.2, (each_out t).2⟩
abbrev midHeap (h : Heap) (us : List Value) : Heap := PySem.W.sortingHeap (h.push (seqObj "list" us.toArray 0)) h.objs.size us
theorem mid_old {h : Heap} {us : List Value} {b : Addr} {o : Obj} (e : h.get? b = some o) : (midHeap h us).get? b = some o :=
  PySem.W.sortingHeap_old (Nat.ne_of_lt (Heap.lt_size e)) (Heap.get?_push_of_some _ e)
theorem sort_tail {κ : PyProof.Rows.KeyKind} (I : I3 (ct X ca) X M0 pins σ3 M σ H s) {ds : List D} {ws : List V} {us : List Value} {Q : Post} (rv : Vals ws us) (rd : RDs (ct X ca) H ds ws) (hz : us.length ≤ sizeLine) (k : D → κ.α) (hk : EachIs (fun v d => κ.keyOf v = some (k d)) us ds)
    (S : PySem.W.SortsAt X.prog X.w A.in1 { s with heap := midHeap s.heap us } κ us) (q : wpNew M (.lst (ds.mergeSort (PySem.W.sortLe κ.toKeyOrd false k))) Q) :
    wpAny (model X.prog X.w) A (call (.builtin "list.sort") [.ref s.heap.objs.size]) (fun _ s' => EP3 (ct X ca) X M0 pins σ3 σ H M Q (.ref s.heap.objs.size) s') E { s with heap := s.heap.push (seqObj "list" us.toArray 0) } := by
  have ho : (s.heap.push (seqObj "list" us.toArray 0)).get? s.heap.objs.size = some (seqObj "list" us.toArray 0) := Heap.get?_push_size _ rfl
  have ez := each_zip rd rv hk
  have hout := PySem.W.sortVals_each (κ := κ) (rev := false) (ks := us) (vs := us) (R := fun v (b : D × V) => RelV b.2 v ∧ RD (ct X ca) H b.1 b.2) (fun b : D × V => k b.1) (ez.mono fun _ _ z => z.2) (ez.mono fun _ _ z => z.1)
  obtain ⟨o1, o2⟩ := each_out hout
  have e1 : (((ds.zip ws).mergeSort (PySem.W.sortLe κ.toKeyOrd false fun b : D × V => k b.1)).map (·.1)) = ds.mergeSort (PySem.W.sortLe κ.toKeyOrd false k) := by
    have := PySem.W.sort_maps (r := PySem.W.sortLe κ.toKeyOrd false fun b : D × V => k b.1) (s := PySem.W.sortLe κ.toKeyOrd false k) (fun b : D × V => b.1) (l := ds.zip ws) (fun _ _ _ _ => rfl)
    rw [zip_fst rd] at this
    exact this
  rw [e1] at o2
  have hlen : (PySem.W.sortVals κ false us us).length = us.length := PySem.W.sortVals_length false rfl
  refine wpAny_call_entry slot_list_sort ⟨_, ho, rfl⟩ entry_list_sort (PySem.W.list_sort_vals (κ := κ) ho S hz ⟨.none, rfl, ?_⟩) (args_list_sort _)
  obtain ⟨ef, hf⟩ := sortedHeap_at (vs := us) (out := (PySem.W.sortVals κ false us us).toArray) ho
  have n1 : H s.heap.objs.size = none := I.inv.hok.fresh (Nat.le_refl _)
  generalize hws : ((ds.zip ws).mergeSort (PySem.W.sortLe κ.toKeyOrd false fun b : D × V => k b.1)).map (·.2) = ws' at o1 o2
  have lw : ws'.length ≤ sizeLine := by rw [o1.length, hlen]; exact hz
  have J : Inv X pins σ (upd H s.heap.objs.size (.lst ws')) { s with heap := sortedHeap (s.heap.push (seqObj "list" us.toArray 0)) s.heap.objs.size us (PySem.W.sortVals κ false us us).toArray } :=
    I.inv.laid (t' := s.toks) (fun b o e => by
      rw [sortedHeap_old (Nat.ne_of_lt (Heap.lt_size e)) (by rw [Heap.size_push]; exact Nat.lt_succ_of_lt (Heap.lt_size e))]
      exact Heap.get?_push_of_some _ e) (Nat.le_refl _) ⟨lw, _, ef, o1, hf⟩
  exact ep_of I ⟨.ref s.heap.objs.size, _, J, rfl, qv_new (m := .lst (ds.mergeSort (PySem.W.sortLe κ.toKeyOrd false k))) I.hp n1 o2 q⟩
/-- reads of pure values -/
theorem each_reads (sy : SysD X.K) (I : I3 (ct X ca) X M0 pins σ3 M σ H s) : ∀ {ds : List D} {ws : List V} {us : List Value}, RDs (ct X ca) H ds ws → Vals ws us → (∀ d ∈ ds, d.pure = true) → EachIs (fun v d => ∃ as, Reads s.heap v d.py as) us ds
  | [], ws, us, r, q, _ => by rw [show ws = [] from r] at q; cases q; exact .nil
  | d :: ds, ws, us, r, q, p => by
    obtain ⟨x, l, rfl, r1, r2⟩ := r
    cases q with
    | cons q1 q2 =>
      obtain ⟨as, h, _⟩ := (pure_deep (M := M) (p d List.mem_cons_self)).reads sy I r1 q1
      exact .cons ⟨as, h⟩ (each_reads sy I r2 q2 fun z hz => p z (List.mem_cons_of_mem _ hz))
theorem each_mem {α β : Type} {R : α → β → Prop} {as : List α} {bs : List β} (h : EachIs R as bs) : EachIs (fun a b => R a b ∧ b ∈ bs) as bs := PySem.W.each_mem h
/-- .. of data -/
theorem sort_data (sy : SysD X.K) (hu : A.units + 40 < cLine) (I : I3 (ct X ca) X M0 pins σ3 M σ H s) {ds : List D} {ws : List V} {us : List Value} {Q : Post} (rv : Vals ws us) (rd : RDs (ct X ca) H ds ws) (hz : us.length ≤ sizeLine) (ok : SortOk ds) (q : wpNew M (.lst (srtD ds)) Q) :
    wpAny (model X.prog X.w) A (call (.builtin "list.sort") [.ref s.heap.objs.size]) (fun _ s' => EP3 (ct X ca) X M0 pins σ3 σ H M Q (.ref s.heap.objs.size) s') E { s with heap := s.heap.push (seqObj "list" us.toArray 0) } := by
  obtain ⟨h1, h2, h3⟩ := ok
  have er := each_reads sy I rd rv fun d hd => (h1 d hd).1
  have er' : EachIs (fun v d => ∃ as, Reads (midHeap s.heap us) v d.py as) us ds := er.mono fun _ _ ⟨as, r⟩ => ⟨as, PyProof.Rows.Reads.keeps (fun _ _ => mid_old) r⟩
  refine sort_tail (κ := PySem.W.dataKind (midHeap s.heap us) (ds.map D.py)) I rv rd hz (fun d => PySem.W.keyToks d.py) ((each_mem er').mono fun v d ⟨⟨as, r⟩, hm⟩ => PySem.W.dataKind_some h2 (List.mem_map.mpr ⟨d, hm, rfl⟩) r)
    (PySem.W.SortsAt.data (s := { s with heap := midHeap s.heap us }) (PySem.W.each_map (R := fun v d => ∃ as, Reads (midHeap s.heap us) v d as) D.py er') h2 h3 fun d hd => ?_) q
  obtain ⟨x, hx, rfl⟩ := List.mem_map.mp hd
  have := (h1 x hx).2
  show A.units + 1 + _ < _
  omega
/-- .. of pairs -/
theorem pairs_eq : ∀ {kvs : List (D × D)}, (kvs.Pairwise fun p q => PyData.eqv p.1.py q.1.py = false ∧ PyData.eqv q.1.py p.1.py = false) → ∀ p ∈ kvs, ∀ q ∈ kvs, PyData.eqv p.1.py q.1.py = true → p = q
  | [], _, p, hp, _, _, _ => nomatch hp
  | x :: kvs, h, p, hp, q, hq, e => by
    rw [List.pairwise_cons] at h
    rcases List.mem_cons.mp hp with e1 | hp1
    · rcases List.mem_cons.mp hq with e2 | hq1
      · rw [e1, e2]
      · subst e1
        rw [(h.1 q hq1).1] at e; cases e
    · rcases List.mem_cons.mp hq with e2 | hq1
      · subst e2
        rw [(h.1 p hp1).2] at e; cases e
      · exact pairs_eq h.2 p hp1 q hq1 e
theorem pairD_pure {p : D × D} (h1 : p.1.pure = true) (h2 : p.2.pure = true) : (pairD p).pure = true := by
  show (p.1.pure && (p.2.pure && true)) = true
  rw [h1, h2]; rfl
theorem pyne {d : D} (h1 : d.pure = true) (h2 : d ≠ .non) : d.py ≠ .none := by
  cases d with
  | non => exact absurd rfl h2
  | ref a => cases h1
  | exn c ds => cases h1
  | kl ds => cases h1
  | _ => intro e; cases e
theorem map_srtP (kvs : List (D × D)) : (kvs.map pairD).mergeSort (PySem.W.sortLe (listOrd itemOrd) false fun d : D => PySem.W.keyToks ((match d with | .tup (k :: _) => k | _ => D.non).py)) = (srtP kvs).map pairD :=
  (PySem.W.sort_maps (r := fun p q : D × D => !PySem.W.dataLt q.1.py p.1.py) pairD (fun _ _ _ _ => rfl)).symm
theorem sort_pairs (sy : SysD X.K) (hu : A.units + 40 < cLine) (I : I3 (ct X ca) X M0 pins σ3 M σ H s) {kvs : List (D × D)} {ws : List V} {us : List Value} {Q : Post} (rv : Vals ws us) (rd : RDs (ct X ca) H (kvs.map pairD) ws) (hz : us.length ≤ sizeLine) (ok : PairsOk kvs) (q : wpNew M (.lst ((srtP kvs).map pairD)) Q) :
    wpAny (model X.prog X.w) A (call (.builtin "list.sort") [.ref s.heap.objs.size]) (fun _ s' => EP3 (ct X ca) X M0 pins σ3 σ H M Q (.ref s.heap.objs.size) s') E { s with heap := s.heap.push (seqObj "list" us.toArray 0) } := by
  obtain ⟨h1, h2, h3⟩ := ok
  have er := each_reads sy I rd rv fun d hd => by
    obtain ⟨p, hp, rfl⟩ := List.mem_map.mp hd
    obtain ⟨a1, a2, a3, a4, _⟩ := h1 p hp
    exact pairD_pure a1 a4
  have er' : EachIs (fun v d => ∃ as, Reads (midHeap s.heap us) v d.py as) us (kvs.map pairD) := er.mono fun _ _ ⟨as, r⟩ => ⟨as, PyProof.Rows.Reads.keeps (fun _ _ => mid_old) r⟩
  have el : us.length = kvs.length := by rw [er.length, List.length_map]
  let pp : D × D → PyData × PyData := fun p => (p.1.py, p.2.py)
  have e2 : EachIs (fun v p => ∃ as, Reads (midHeap s.heap us) v (pairPy p) as) us (kvs.map pp) := by
    have aux : ∀ {us : List Value} {kvs : List (D × D)}, EachIs (fun v d => ∃ as, Reads (midHeap s.heap us) v d.py as) us (kvs.map pairD) → True := fun _ => trivial
    refine PySem.W.EachIs.of_zip (by rw [List.length_map]; exact el) fun z hz' => ?_
    obtain ⟨i, hi⟩ := List.mem_iff_getElem?.mp hz'
    obtain ⟨i1, i2⟩ := List.getElem?_zip_eq_some.mp hi
    rw [List.getElem?_map] at i2
    cases ek : kvs[i]? with
    | none => rw [ek] at i2; cases i2
    | some p =>
      rw [ek] at i2
      have i2' : pp p = z.2 := Option.some.inj i2
      have hm : (z.1, pairD p) ∈ us.zip (kvs.map pairD) := List.mem_iff_getElem?.mpr ⟨i, List.getElem?_zip_eq_some.mpr ⟨i1, by rw [List.getElem?_map, ek]; rfl⟩⟩
      have r := er'.zip _ hm
      rw [← i2']
      exact r
  have hal : KeysAlike (kvs.map pp) := by
    refine ⟨fun p hp q hq => ?_, fun p hp => ?_⟩
    · obtain ⟨x, hx, rfl⟩ := List.mem_map.mp hp
      obtain ⟨y, hy, rfl⟩ := List.mem_map.mp hq
      exact h2 x hx y hy
    · obtain ⟨x, hx, rfl⟩ := List.mem_map.mp hp
      obtain ⟨a1, a2, a3, _⟩ := h1 x hx
      exact pyne a1 a3
  have hS := sortsPairs (prog := X.prog) (w := X.w) (A := A.in1) (s := { s with heap := midHeap s.heap us }) e2 hal (fun p hp q hq e => by
      obtain ⟨x, hx, rfl⟩ := List.mem_map.mp hp
      obtain ⟨y, hy, rfl⟩ := List.mem_map.mp hq
      rw [pairs_eq h3 x hx y hy e]) (fun p hp => by
      obtain ⟨x, hx, rfl⟩ := List.mem_map.mp hp
      exact (h1 x hx).2.2.2.2.2) (fun p hp => by
      obtain ⟨x, hx, rfl⟩ := List.mem_map.mp hp
      obtain ⟨a1, a2, a3, a4, a5, _⟩ := h1 x hx
      have a2' : x.1.py.depth ≤ 20 := a2
      have a5' : x.2.py.depth ≤ 20 := a5
      show A.units + 1 + x.1.py.depth + 1 < _ ∧ A.units + 1 + x.2.py.depth + 1 < _
      omega)
  refine sort_tail (κ := pairKind (midHeap s.heap us) (kvs.map pp)) I rv rd hz (fun d : D => PySem.W.keyToks ((match d with | .tup (k :: _) => k | _ => D.non).py)) ((each_mem er').mono fun v d ⟨⟨as, r⟩, hm⟩ => ?_) hS (by
    show wpNew M (.lst ((kvs.map pairD).mergeSort (PySem.W.sortLe (listOrd itemOrd) false _))) Q
    rw [map_srtP]; exact q)
  obtain ⟨p, hp, rfl⟩ := List.mem_map.mp hm
  exact pairKind_some hal (List.mem_map.mpr ⟨p, hp, rfl⟩) r
end
end L3
end
section
set_option autoImplicit false
set_option linter.all false
set_option maxRecDepth 100000
/-! L3: built-ins and methods by values -/
namespace L3
open PySem L2 PyProof.Rows

section
variable {ca : Nat → Addr} {X : Cx} {M0 M : Mp} {pins : List (Addr × Obj)} {σ3 : Lo} {σ : L2.St} {H : Hp} {s : Shared}
/-- a call by values -/
def Fn3 (ca : Nat → Addr) (X : Cx) (f : Value) (w : List D → Mp → Post → Prop) : Prop :=
  ∀ (pins : List (Addr × Obj)) (s : Shared) (σ : L2.St) (H : Hp) (M0 M : Mp) (σ3 : Lo) (ds : List D) (vs : List V) (us : List Value) (Q : Post), I3 (ct X ca) X M0 pins σ3 M σ H s → Vals vs us → RDs (ct X ca) H ds vs → w ds M Q →
    wpAny (model X.prog X.w) X.A (call f us) (EP3 (ct X ca) X M0 pins σ3 σ H M Q) X.xe s
/-- a built-in method's call by values -/
def Mt3 (ca : Nat → Addr) (X : Cx) (id : String) (w : D → List D → Mp → Post → Prop) : Prop :=
  ∀ (pins : List (Addr × Obj)) (s : Shared) (σ : L2.St) (H : Hp) (M0 M : Mp) (σ3 : Lo) (x : D) (a : V) (v : Value) (ds : List D) (vs : List V) (us : List Value) (Q : Post), I3 (ct X ca) X M0 pins σ3 M σ H s → RelV a v → RD (ct X ca) H x a → Vals vs us → RDs (ct X ca) H ds vs → w x ds M Q →
    wpAny (model X.prog X.w) X.A (call (.builtin id) (v :: us)) (EP3 (ct X ca) X M0 pins σ3 σ H M Q) X.xe s
theorem RDs.one {C : Ct} {d : D} {vs : List V} (r : RDs C H [d] vs) : ∃ v, vs = [v] ∧ RD C H d v := by
  obtain ⟨x, l, rfl, h1, h2⟩ := r
  rw [show l = [] from h2]
  exact ⟨x, rfl, h1⟩
theorem RDs.two {C : Ct} {d e : D} {vs : List V} (r : RDs C H [d, e] vs) : ∃ v w, vs = [v, w] ∧ RD C H d v ∧ RD C H e w := by
  obtain ⟨x, l, rfl, h1, h2⟩ := r
  obtain ⟨y, rfl, h3⟩ := h2.one
  exact ⟨x, y, rfl, h1, h3⟩

theorem RDs.mk1 {C : Ct} {d : D} {v : V} (r : RD C H d v) : RDs C H [d] [v] := ⟨v, [], rfl, r, rfl⟩
theorem f_len : Fn3 ca X (.builtin "len") (wpBlt .len) := by
  intro pins s σ H M0 M σ3 ds vs us Q I rv rd h
  have go : ∀ {x : V} {n : Nat}, vs = [x] → LenV X.K x H n → Q (.int n) M → wpAny (model X.prog X.w) X.A (call (.builtin "len") us) (EP3 (ct X ca) X M0 pins σ3 σ H M Q) X.xe s := fun {x n} e hl q =>
    thn (call_len pins s σ H vs us (QV (ct X ca) H M Q) I.inv rv ⟨x, n, e, hl, qv_int I.hp q⟩) fun _ _ e => ep_of I e
  match ds, h with
  | [.tup xs], h =>
    obtain ⟨x, e, p, ys, rfl, hq, rs⟩ := rd.one
    exact go e (.inr ⟨ys, hq.sq, rfl⟩) (by rw [← rs.length]; exact h)
  | [.kt xs], h =>
    obtain ⟨x, e, p, ys, rfl, hq, rs⟩ := rd.one
    exact go e (.inr ⟨ys, sqk hq, rfl⟩) (by rw [← rs.length]; exact h)
  | [.kl xs], h =>
    obtain ⟨x, e, p, ys, rfl, hq, rs⟩ := rd.one
    exact go e (.inl ⟨ys, hq.sq, rfl⟩) (by rw [← rs.length]; exact h)
  | [.str x], h =>
    obtain ⟨y, e, r⟩ := rd.one
    have r' : y = .str x := r
    subst r'
    exact go e ⟨h.1, rfl⟩ h.2
  | [.ref a], h =>
    obtain ⟨y, e, r⟩ := rd.one
    have r' : y = .ref a := r
    subst r'
    cases g : M a with
    | none => simp only [wpBlt, g] at h
    | some o =>
      cases o with
      | lst xs =>
        simp only [wpBlt, g] at h
        obtain ⟨ys, hx, rs⟩ := I.hp.lst g
        exact go e (.inl ⟨ys, SqL.of hx, rfl⟩) (by rw [← rs.length]; exact h)
      | dct kvs =>
        simp only [wpBlt, g] at h
        obtain ⟨ks, hx, pd, ty⟩ := I.dictAt g
        subst e
        obtain ⟨u, rfl, rx⟩ := vals1 rv
        cases rx
        refine d_len I.inv (.inl hx) fun t s' J => ep_now (v := .int ks.length) (d := .int ks.length) I J ⟨t, rfl⟩ rfl ?_
        rw [← pd.len]
        exact h
      | dcT kvs =>
        simp only [wpBlt, g] at h
        obtain ⟨hs, es, ep, hr, l1, hf⟩ := I.dtRaw (.inl g)
        subst e
        obtain ⟨u, rfl, rx⟩ := vals1 rv
        cases rx
        refine call_lenR hs hr hf (ep_now (v := .int es.size) (d := .int es.size) I (I.inv.tok _) ⟨_, rfl⟩ rfl ?_)
        rw [l1]
        exact h
      | _ => simp only [wpBlt, g] at h
theorem f_int : Fn3 ca X (.type "int") (wpBlt .int) := by
  intro pins s σ H M0 M σ3 ds vs us Q I rv rd h
  match ds, h with
  | [.int i], h =>
    obtain ⟨y, e, r⟩ := rd.one
    have r' : y = .int i := r
    subst r'
    exact thn (call_int1 pins s σ H vs us (QV (ct X ca) H M Q) I.inv rv (.inl ⟨i, e, qv_int I.hp h⟩)) fun _ _ e => ep_of I e
  | [.bl b], h =>
    obtain ⟨y, e, r⟩ := rd.one
    have r' : y = .bl b := r
    subst r'
    exact thn (call_int1 pins s σ H vs us (QV (ct X ca) H M Q) I.inv rv (.inr ⟨b, e, qv_int I.hp h⟩)) fun _ _ e => ep_of I e
/-- the keys that were collected -/
theorem keyVals {P : Program} {w : World} {xs : List (NestedKey × Addr × V)} {us : List (NestedKey × Addr × Value)} {es : Array DictEntry} {acc : Array Value} (he : es.toList = us.map (entryOfKey (nestedKind P w))) (xu : XU xs us)
    (it : PySem.ItemsOf (fun i v => ∃ en : DictEntry, es[i]? = some en ∧ v = en.key) acc es.size) : Vals (xs.map fun q => V.ref q.2.1) acc.toList := by
  have ea : acc.toList = us.map fun x => Value.ref x.2.1 := by
    have hl : acc.toList.length = us.length := by rw [Array.length_toList, it.1]; exact size_of_entries he
    apply List.ext_getElem?
    intro j
    rw [List.getElem?_map]
    cases hj : acc.toList[j]? with
    | none =>
      have h1 := List.getElem?_eq_none_iff.mp hj
      rw [List.getElem?_eq_none (by omega)]
      all_goals rfl
    | some v =>
      obtain ⟨en, hen, hv⟩ := it.2 j v (by rw [← Array.getElem?_toList]; exact hj)
      have qe := entry_at he j
      rw [hen] at qe
      cases hb : us[j]? with
      | none =>
        rw [hb] at qe
        exact nomatch (show some en = none from qe)
      | some b =>
        rw [hb] at qe
        have e2 : en = entryOfKey (nestedKind P w) b := Option.some.inj qe
        rw [hv, e2]
        all_goals rfl
  rw [ea]
  clear ea it he
  induction xu with
  | nil => exact .nil
  | cons h t ih => exact .cons (show RelV (V.ref _) (Value.ref _) by rw [h.2.1]; rfl) ih
theorem f_sorted (hc : X.calm = true) (sy : SysD X.K) (hu : X.A.units + 80 < cLine) : Fn3 ca X (.builtin "sorted") (wpBlt .sorted) := by
  intro pins s σ H M0 M σ3 ds vs us Q I rv rd h
  match ds, h with
  | [.ref a], h =>
    obtain ⟨y, e, r⟩ := rd.one
    have r' : y = .ref a := r
    subst r'
    subst e
    obtain ⟨u, rfl, rx⟩ := vals1 rv
    cases rx
    have hu2 : X.A.in1.units + 40 < cLine := by show X.A.units + 1 + 40 < cLine; omega
    refine Calls.call_function_entry kind_sorted plain_sorted entry_sorted (args_sorted1 _) ?_
    unfold Builtin.«sorted»
    refine wpAny_bind (m := checkCount "sorted" 1 1 _) (wpAny_pure ?_)
    have h' : (match M a with
      | some (.lst xs) => SortOk xs ∧ wpNew M (.lst (srtD xs)) Q
      | some (.dcT kvs) => SortOk (kvs.map (·.1)) ∧ wpNew M (.lst (srtD (kvs.map (·.1)))) Q
      | _ => False) := h
    cases g : M a with
    | none => rw [g] at h'; exact h'.elim
    | some o =>
      rw [g] at h'
      cases o with
      | lst xs =>
        obtain ⟨ok, q⟩ := h'
        obtain ⟨ys, hys, rs⟩ := I.hp.lst g
        obtain ⟨its, rv2, p, hz⟩ := I.inv.list (SqL.of hys)
        have hz' : its.length ≤ sizeLine := by rw [← rv2.length]; exact hz
        refine wpAny_bind (collect_list p.isList ?_ hz')
        refine wpAny_bind (wpAny_newList ?_ hz')
        have I2 : I3 (ct X ca) X M0 pins σ3 M σ H { s with heap := (s.heap.push (seqObj "list" #[] 0)).update s.heap.objs.size (Obj.mapSeq (· ++ its.toArray)) } := I.same (I.inv.kept (t' := s.toks) fun b o e => by
          rw [Heap.get?_update_ne _ _ _ _ (Nat.ne_of_lt (Heap.lt_size e))]
          exact Heap.get?_push_of_some _ e)
        exact wpAny_bind (wpAny_holding (wpAny_mono (sort_data (A := X.A.in1) (E := X.xe) sy hu2 I2 rv2 rs hz' ok q) (fun _ s' x => wpAny_pure ⟨_, rfl, x⟩) fun _ _ e => e))
      | dcT kvs =>
        obtain ⟨ok, q⟩ := h'
        obtain ⟨hs, hz, xs, us, hH, n, pt, xu, o, es, ep, ho, hx2, hdt, he, _⟩ := I.dtAt (.inl g)
        have l1 : es.size = kvs.length := by
          rw [size_of_entries he, pt.len]
          exact (Paired.length xu).symm
        refine wpAny_bind (PySem.W.kdu_collect (A := X.A.in1) (kdl_raw hs hx2 hdt) (I.inv.ok.hd hc) ho (by omega) fun h2 tk acc kp it => ?_)
        have rvk := keyVals he xu it
        have hz' : acc.toList.length ≤ sizeLine := by rw [← rvk.length, List.length_map, ← pt.len]; exact hz
        refine wpAny_bind (wpAny_newList ?_ hz')
        have I2 : I3 (ct X ca) X M0 pins σ3 M σ H { s with heap := h2, toks := tk } := I.same (I.inv.kept (t' := tk) kp)
        exact wpAny_bind (wpAny_holding (wpAny_mono (sort_data (A := X.A.in1) (E := X.xe) sy hu2 I2 rvk (pt_keys pt) hz' ok q) (fun _ s' x => wpAny_pure ⟨_, rfl, x⟩) fun _ _ e => e))
      | _ => exact h'.elim
theorem f_list (hc : X.calm = true) : Fn3 ca X (.type "list") (wpBlt .list) := by
  intro pins s σ H M0 M σ3 ds vs us Q I rv rd h
  have go : ∀ {p : Addr} {ys : List V} {xs : List D}, vs = [.ref p] → (SqL X.K H p ys ∨ SqT X.K H p ys) → RDs (ct X ca) H xs ys → wpNew M (.lst xs) Q → wpAny (model X.prog X.w) X.A (call (.type "list") us) (EP3 (ct X ca) X M0 pins σ3 σ H M Q) X.xe s := fun {p ys xs} e hq rs q =>
    thn (call_list_of pins s σ H vs us (QV (ct X ca) H M Q) I.inv rv ⟨p, ys, e, hq, fun l hl => qv_new (m := .lst xs) I.hp hl rs q⟩) fun _ _ e => ep_of I e
  match ds, h with
  | [.tup xs], h =>
    obtain ⟨x, e, p, ys, rfl, hq, rs⟩ := rd.one
    exact go e (.inr hq.sq) rs h
  | [.kt xs], h =>
    obtain ⟨x, e, p, ys, rfl, hq, rs⟩ := rd.one
    exact go e (.inr (sqk hq)) rs h
  | [.ref a], h =>
    obtain ⟨y, e, r⟩ := rd.one
    have r' : y = .ref a := r
    subst r'
    have h' : (match M a with
      | some (.lst xs) => wpNew M (.lst xs) Q
      | some (.dct kvs) => wpNew M (.lst (kvs.map (·.1))) Q
      | some (.dcT kvs) => wpNew M (.lst (kvs.map (·.1))) Q
      | _ => False) := h
    cases g : M a with
    | none => rw [g] at h'; exact h'.elim
    | some o =>
      rw [g] at h'
      cases o with
      | lst xs =>
        obtain ⟨ys, hys, rs⟩ := I.hp.lst g
        exact go e (.inl (SqL.of hys)) rs h'
      | dct kvs =>
        obtain ⟨ks, hx2, pd, ty⟩ := I.dictAt g
        have rs : ∀ {kvs : List (D × D)} {ks : List (Key × V)}, PD (ct X ca) H kvs ks → RDs (ct X ca) H (kvs.map (·.1)) (ks.map fun p => kV p.1) := by
          intro kvs ks pd
          induction pd with
          | nil => exact rfl
          | cons h t ih => exact ⟨_, _, rfl, rd_key h.1, ih⟩
        exact thn (call_listD hc pins s σ H vs us (QV (ct X ca) H M Q) I.inv rv ⟨a, ks, e, .inl hx2, fun l hl => qv_new (m := .lst (List.map (fun (p : D × D) => p.1) kvs)) I.hp hl (show RDs (ct X ca) H (List.map (fun (p : D × D) => p.1) kvs) _ from rs pd) h'⟩) fun _ _ e => ep_of I e
      | dcT kvs =>
        subst e
        obtain ⟨u, rfl, rx⟩ := vals1 rv
        cases rx
        obtain ⟨hs, hz, xs, us, hH, n, pt, xu, o, es, ep, ho, hx2, hdt, he, _⟩ := I.dtAt (.inl g)
        have l1 : es.size = kvs.length := by
          rw [size_of_entries he, pt.len]
          exact (Paired.length xu).symm
        refine PySem.W.kdl_call (kdl_raw hs hx2 hdt) (I.inv.ok.hd hc) ho (by omega) fun h2 tk acc c2 kp e it => ?_
        have rvk := keyVals he xu it
        have n1 : H s.heap.objs.size = none := I.inv.hok.fresh (Nat.le_refl _)
        have J : Inv X pins σ (upd H s.heap.objs.size (.lst (xs.map fun q => V.ref q.2.1))) { s with heap := h2, toks := tk } :=
          I.inv.laid (t' := tk) kp (Nat.le_refl _) ⟨by rw [List.length_map, ← pt.len]; exact hz, acc.toList, c2, rvk, by rw [Array.toArray_toList]; exact e⟩
        exact ep_of I ⟨.ref s.heap.objs.size, _, J, rfl, qv_new (m := .lst (List.map (fun (p : D × D) => p.1) kvs)) I.hp n1 (show RDs (ct X ca) H (List.map (fun (p : D × D) => p.1) kvs) _ from pt_keys pt) h'⟩
      | _ => exact h'.elim
theorem f_tuple : Fn3 ca X (.type "tuple") (wpBlt .tuple) := by
  intro pins s σ H M0 M σ3 ds vs us Q I rv rd h
  match ds, h with
  | [.tup xs], h =>
    obtain ⟨x, e, p, ys, rfl, hq, rs⟩ := rd.one
    exact thn (call_tuple_of pins s σ H vs us (QV (ct X ca) H M Q) I.inv rv ⟨p, ys, e, .inr ⟨hq.sq, qv_now (d := .tup xs) I.hp ⟨p, ys, rfl, hq, rs⟩ h⟩⟩) fun _ _ e => ep_of I e
  | [.kt xs], h =>
    obtain ⟨x, e, p, ys, rfl, hq, rs⟩ := rd.one
    exact thn (call_tuple_of pins s σ H vs us (QV (ct X ca) H M Q) I.inv rv ⟨p, ys, e, .inr ⟨sqk hq, qv_now (d := .kt xs) I.hp ⟨p, ys, rfl, hq, rs⟩ h⟩⟩) fun _ _ e => ep_of I e
  | [.ref a], h =>
    obtain ⟨y, e, r⟩ := rd.one
    have r' : y = .ref a := r
    subst r'
    have h' : (match M a with
      | some (.lst xs) => Q (.tup xs) M
      | _ => False) := h
    cases g : M a with
    | none => rw [g] at h'; exact h'.elim
    | some o =>
      rw [g] at h'
      cases o with
      | lst xs =>
        obtain ⟨ys, hys, rs⟩ := I.hp.lst g
        exact thn (call_tuple_of pins s σ H vs us (QV (ct X ca) H M Q) I.inv rv ⟨a, ys, e, .inl ⟨SqL.of hys, fun l hl => qv_tup I.hp hl rs h'⟩⟩) fun _ _ e => ep_of I e
      | _ => exact h'.elim
theorem rds_int {C : Ct} {H : Hp} : ∀ {ns : List Int} {ys : List V}, RDs C H (ns.map D.int) ys → ys = ns.map V.int
  | [], _, h => h
  | n :: ns, _, h => by
    obtain ⟨x, r, rfl, h1, h2⟩ := h
    rw [show x = .int n from h1, rds_int h2]
    rfl
theorem f_sum (hc : X.calm = true) : Fn3 ca X (.builtin "sum") (wpBlt .sum) := by
  intro pins s σ H M0 M σ3 ds vs us Q I rv rd h
  match ds, h with
  | [.ref a], h =>
    obtain ⟨y, e, r⟩ := rd.one
    have r' : y = .ref a := r
    subst r'
    have h' : (match M a with
      | some (.lst xs) => ∃ ns : List Int, xs = ns.map .int ∧ Q (.int ns.sum) M
      | _ => False) := h
    cases g : M a with
    | none => rw [g] at h'; exact h'.elim
    | some o =>
      rw [g] at h'
      cases o with
      | lst xs =>
        obtain ⟨ns, rfl, q⟩ := h'
        obtain ⟨ys, hys, rs⟩ := I.hp.lst g
        rw [rds_int rs] at hys
        exact thn (cr_sum hc pins s σ H vs us (QV (ct X ca) H M Q) I.inv rv ⟨a, ns, e, SqL.of hys, qv_int I.hp q⟩) fun _ _ e => ep_of I e
      | _ => exact h'.elim
theorem f_repr (hg : X.A.guards = some []) (hu : X.A.units + 80 < cLine) (sy : SysD X.K) : Fn3 ca X (.builtin "repr") (wpBlt .repr) := by
  intro pins s σ H M0 M σ3 ds vs us Q I rv rd h
  match ds, h with
  | [d], h =>
    obtain ⟨p, hd, hs, hz, hp, q⟩ := h
    obtain ⟨y, rfl, r⟩ := rd.one
    obtain ⟨u, rfl, rx⟩ := vals1 rv
    obtain ⟨as, rr, nd⟩ := hd.reads sy I r rx
    have fin : ∀ (h' : Heap) (t tk : Tok), (∀ b o, s.heap.get? b = some o → h'.get? b = some o) → EP3 (ct X ca) X M0 pins σ3 σ H M Q (.str p.shown t) { s with heap := h', toks := tk } := fun h' t tk k =>
      ep_now (v := .str p.shown) (d := .str p.shown) I (I.inv.kept k) ⟨_, rfl⟩ rfl q
    cases rr with
    | none => exact PySem.P.repr_of_none (fin s.heap _ _ fun _ _ e => e)
    | bool b => exact PySem.P.repr_of_bool (by simp only [PyData.shown] at fin ⊢; exact fin s.heap _ _ fun _ _ e => e)
    | int i t => exact PySem.P.repr_of_int (by simpa [PyData.showable] using hs) (by simp only [PyData.shown] at fin; exact fin s.heap _ _ fun _ _ e => e)
    | str x t => exact PySem.P.repr_of_str (by simp only [PyData.shown] at fin; exact fin s.heap _ _ fun _ _ e => e) (by simpa only [PyData.shown] using hz)
    | list h1 h2 h3 h4 => exact repr_of_reads' (.list h1 h2 h3 h4) hs (fun _ => nd) hg (by omega) (fun _ _ e => e) (fun h' u tk k => fin h' u tk k) hz
    | tuple h1 h2 h3 h4 => exact repr_of_reads' (.tuple h1 h2 h3 h4) hs (fun _ => nd) hg (by omega) (fun _ _ e => e) (fun h' u tk k => fin h' u tk k) hz
    | dict h1 h2 h3 h4 h5 => exact repr_of_reads' (.dict h1 h2 h3 h4 h5) hs (fun _ => nd) hg (by omega) (fun _ _ e => e) (fun h' u tk k => fin h' u tk k) hz
theorem f_max (hc : X.calm = true) : Fn3 ca X (.builtin "max") (wpBlt .max) := by
  intro pins s σ H M0 M σ3 ds vs us Q I rv rd h
  match ds, h with
  | [.int i, .int j], h =>
    obtain ⟨v, w, e, r1, r2⟩ := rd.two
    have e1 : v = .int i := r1
    have e2 : w = .int j := r2
    subst e1 e2
    exact thn (call_max2 hc pins s σ H vs us (QV (ct X ca) H M Q) I.inv rv ⟨i, j, e, qv_int I.hp h⟩) fun _ _ e => ep_of I e
theorem f_min (hc : X.calm = true) : Fn3 ca X (.builtin "min") (wpBlt .min) := by
  intro pins s σ H M0 M σ3 ds vs us Q I rv rd h
  match ds, h with
  | [.int i, .int j], h =>
    obtain ⟨v, w, e, r1, r2⟩ := rd.two
    have e1 : v = .int i := r1
    have e2 : w = .int j := r2
    subst e1 e2
    exact thn (call_min2 hc pins s σ H vs us (QV (ct X ca) H M Q) I.inv rv ⟨i, j, e, qv_int I.hp h⟩) fun _ _ e => ep_of I e
theorem f_abs : Fn3 ca X (.builtin "abs") (wpBlt .abs) := by
  intro pins s σ H M0 M σ3 ds vs us Q I rv rd h
  match ds, h with
  | [.int i], h =>
    obtain ⟨y, e, r⟩ := rd.one
    have r' : y = .int i := r
    subst r'
    exact thn (call_abs pins s σ H vs us (QV (ct X ca) H M Q) I.inv rv ⟨i, e, qv_int I.hp h⟩) fun _ _ e => ep_of I e
theorem f_str : Fn3 ca X (.type "str") (wpBlt .str) := by
  intro pins s σ H M0 M σ3 ds vs us Q I rv rd h
  match ds, h with
  | [.int i], h =>
    obtain ⟨y, e, r⟩ := rd.one
    have r' : y = .int i := r
    subst r'
    exact thn (call_str_int pins s σ H vs us (QV (ct X ca) H M Q) I.inv rv ⟨i, e, h.1, qv_str I.hp h.2⟩) fun _ _ e => ep_of I e
/-- a method by values -/
theorem mt3_of {id : String} {w : D → List D → Mp → Post → Prop} {r : V → List V → Hp → VK → Prop} (hm : MtR X id r)
    (h : ∀ (H : Hp) (M : Mp) (x : D) (a : V) (ds : List D) (vs : List V) (Q : Post), RM (ct X ca) H M → RD (ct X ca) H x a → RDs (ct X ca) H ds vs → w x ds M Q → r a vs H (QV (ct X ca) H M Q)) : Mt3 ca X id w :=
  fun pins s σ H M0 M σ3 x a v ds vs us Q I ra hx rv rd hw => thn (hm pins s σ H a vs v us _ I.inv ra rv (h H M x a ds vs Q I.hp hx rd hw)) fun _ _ q => ep_of I q
/-- a list is written -/
theorem qv_wr {C : Ct} {Q : Post} {a : Addr} {ds es : List D} {ys : List V} {v : V} {d : D} (r : RM C H M) (hm : M a = some (.lst ds)) (rs : RDs C H es ys) (rd : RD C H d v) (q : Q d (mset M a (.lst es))) :
    QV C H M Q v (upd H a (.lst ys)) :=
  ⟨d, mset M a (.lst es), r.write hm (RDs.keep (r.tupKw hm) rs), write_stp r hm, rd.keep (r.tupKw hm), q⟩
theorem m_append : Mt3 ca X "list.append" (fun x ds M Q => rcv x M = some .lst ∧ wpMth .append x ds M Q) := mt3_of mt_append fun H M x a ds vs Q r hx hd ⟨hk, h⟩ => by
  cases x with
  | ref p =>
    have e : a = .ref p := hx; subst e
    cases g : M p with
    | none => simp only [wpMth, g] at h
    | some o =>
      cases o with
      | lst ys =>
        match ds, h with
        | [d], h =>
          simp only [wpMth, g] at h
          obtain ⟨xs, hxs, rs⟩ := r.lst g
          obtain ⟨v, rfl, rv⟩ := hd.one
          exact ⟨p, xs, v, rfl, rfl, hxs, by rw [← rs.length]; exact h.1, qv_wr r g (RDs.append rs (RDs.mk1 rv)) (show RD (ct X ca) H .non .non from rfl) h.2⟩
        | [], h => simp only [wpMth, g] at h
        | _ :: _ :: _, h => simp only [wpMth, g] at h
      | _ => simp only [rcv, g] at hk; try cases hk
  | _ => exact absurd hk (by simp [rcv])
theorem m_extend : Mt3 ca X "list.extend" (fun x ds M Q => rcv x M = some .lst ∧ wpMth .extend x ds M Q) := by
  intro pins s σ H M0 M σ3 x a v ds vs us Q I ra hx rv rd ⟨hk, h⟩
  cases x with
  | ref p =>
    have e : a = .ref p := hx; subst e
    cases g : M p with
    | none => simp only [wpMth, g] at h
    | some o =>
      cases o with
      | lst ys =>
        match ds, h with
        | [.ref b], h =>
          simp only [wpMth, g, wpExt] at h
          cases gb : M b with
          | none => simp only [gb] at h
          | some o2 =>
            cases o2 with
            | lst zs =>
              simp only [gb] at h
              obtain ⟨xs, hxs, rs⟩ := I.hp.lst g
              obtain ⟨ws, hws, rs2⟩ := I.hp.lst gb
              obtain ⟨w, rfl, rw'⟩ := rd.one
              have ew : w = .ref b := rw'
              subst ew
              refine thn (mt_extend pins s σ H (.ref p) [.ref b] v us (QV (ct X ca) H M Q) I.inv ra rv ⟨p, b, xs, ws, rfl, rfl, hxs, hws, by rw [← rs.length, ← rs2.length]; exact h.1, qv_wr I.hp g (RDs.append rs rs2) (show RD (ct X ca) H .non .non from rfl) h.2⟩) fun _ _ e => ep_of I e
            | _ => simp only [gb] at h
        | [], h => simp only [wpMth, g] at h
        | [.tup ys], h => simp only [wpMth, g, wpExt] at h
        | [.non], h => simp only [wpMth, g, wpExt] at h
        | [.bl _], h => simp only [wpMth, g, wpExt] at h
        | [.int _], h => simp only [wpMth, g, wpExt] at h
        | [.str _], h => simp only [wpMth, g, wpExt] at h
        | [.kl _], h => simp only [wpMth, g, wpExt] at h
        | [.kt _], h => simp only [wpMth, g, wpExt] at h
        | [.exn _ _], h => simp only [wpMth, g, wpExt] at h
        | _ :: _ :: _, h => simp only [wpMth, g] at h
      | _ => simp only [rcv, g] at hk; try cases hk
  | _ => exact absurd hk (by simp [rcv])
/-- from a list's end -/
theorem m_pop : Mt3 ca X "list.pop" (fun x ds M Q => rcv x M = some .lst ∧ wpMth .pop x ds M Q) := by
  intro pins s σ H M0 M σ3 x a v ds vs us Q I ra hx rv rd ⟨hk, h⟩
  cases x with
  | ref p =>
    have e : a = .ref p := hx; subst e
    cases g : M p with
    | none => simp only [wpMth, g] at h
    | some o =>
      cases o with
      | lst ys =>
        obtain ⟨xs, hxs, rs⟩ := I.hp.lst g
        match ds, h with
        | [], h =>
          simp only [wpMth, g] at h
          obtain ⟨zs, d, rfl, q⟩ := h
          obtain ⟨ws, w, rfl, r1, r2⟩ := rs.splitLast
          rw [show vs = [] from rd] at rv
          refine thn (mt_pop pins s σ H (.ref p) [] v us (QV (ct X ca) H M Q) I.inv ra rv ⟨p, ws ++ [w], w, rfl, rfl, hxs, by simp, ?_⟩) fun _ _ e => ep_of I e
          rw [List.dropLast_concat]
          exact qv_wr I.hp g r1 r2 q
        | [.int i], h =>
          simp only [wpMth, g] at h
          obtain ⟨d, h0, hd, q⟩ := h
          obtain ⟨w, rfl, rw'⟩ := rd.one
          have ew : w = .int i := rw'
          subst ew
          obtain ⟨y, hy, ry⟩ := rs.get hd
          have hlt : i.toNat < xs.length := (List.getElem?_eq_some_iff.mp hy).1
          have hz : xs.length ≤ sizeLine := (show ObjOk X.prog X.w H s.heap p (.lst xs) from I.inv.hok p _ hxs).1
          rw [sizeLine_eq] at hz
          refine thn (mt_popAt pins s σ H (.ref p) [.int i] v us (QV (ct X ca) H M Q) I.inv ra rv ⟨p, xs, i, i.toNat, y, rfl, rfl, hxs, by omega, by omega, ?_, hy, qv_wr I.hp g (rs.eraseIdx i.toNat) ry q⟩) fun _ _ e => ep_of I e
          unfold seqIndex?
          have h1 : ¬ i < 0 := by omega
          simp only [h1, if_false]
          first
            | rw [if_pos (by omega)]
            | (simp; omega)
        | [.non], h => simp only [wpMth, g] at h
        | [.bl _], h => simp only [wpMth, g] at h
        | [.str _], h => simp only [wpMth, g] at h
        | [.tup _], h => simp only [wpMth, g] at h
        | [.ref _], h => simp only [wpMth, g] at h
        | [.kl _], h => simp only [wpMth, g] at h
        | [.kt _], h => simp only [wpMth, g] at h
        | [.exn _ _], h => simp only [wpMth, g] at h
        | _ :: _ :: _, h => simp only [wpMth, g] at h
      | _ => simp only [rcv, g] at hk; try cases hk
  | _ => exact absurd hk (by simp [rcv])
theorem rcv_dct {x : D} {M : Mp} (h : rcv x M = some .dct) : ∃ a o, x = .ref a ∧ M a = some o ∧ ((∃ kvs, o = .dct kvs) ∨ (∃ kvs, o = .lck kvs) ∨ (∃ kvs, o = .dcT kvs) ∨ ∃ kvs, o = .lkT kvs) := by
  cases x with
  | ref a =>
    cases e : M a with
    | none => simp only [rcv, e] at h; cases h
    | some o => cases o with
      | dct kvs => exact ⟨a, _, rfl, e, .inl ⟨kvs, rfl⟩⟩
      | lck kvs => exact ⟨a, _, rfl, e, .inr (.inl ⟨kvs, rfl⟩)⟩
      | dcT kvs => exact ⟨a, _, rfl, e, .inr (.inr (.inl ⟨kvs, rfl⟩))⟩
      | lkT kvs => exact ⟨a, _, rfl, e, .inr (.inr (.inr ⟨kvs, rfl⟩))⟩
      | _ => simp only [rcv, e] at h; cases h
  | _ => cases h
theorem wpMth_dct {m : Mth} {a : Addr} {o : MO} {args : List D} {Q : Post} (g : M a = some o) (ho : (∃ kvs, o = .dct kvs) ∨ (∃ kvs, o = .lck kvs) ∨ (∃ kvs, o = .dcT kvs) ∨ ∃ kvs, o = .lkT kvs) (h : wpMth m (.ref a) args M Q) : wpDm m a o args M Q := by
  rcases ho with ⟨kvs, rfl⟩ | ⟨kvs, rfl⟩ | ⟨kvs, rfl⟩ | ⟨kvs, rfl⟩ <;> (simp only [wpMth, g] at h; exact h)
theorem dk_inv {o : MO} {k : D} {kvs : List (D × D)} (h : o.dk k = some kvs) : ((o = .dct kvs ∨ o = .lck kvs) ∧ k.hk1 = true) ∨ ((o = .dcT kvs ∨ o = .lkT kvs) ∧ k.hkT = true) := by
  cases o with
  | dct l => by_cases e : k.hk1 = true <;> simp [MO.dk, e] at h; subst h; exact .inl ⟨.inl rfl, e⟩
  | lck l => by_cases e : k.hk1 = true <;> simp [MO.dk, e] at h; subst h; exact .inl ⟨.inr rfl, e⟩
  | dcT l => by_cases e : k.hkT = true <;> simp [MO.dk, e] at h; subst h; exact .inr ⟨.inl rfl, e⟩
  | lkT l => by_cases e : k.hkT = true <;> simp [MO.dk, e] at h; subst h; exact .inr ⟨.inr rfl, e⟩
  | _ => simp [MO.dk] at h
theorem I3.dkRd (I : I3 (ct X ca) X M0 pins σ3 M σ H s) {a : Addr} {kvs : List (D × D)} (h : M a = some (.dct kvs) ∨ M a = some (.lck kvs)) : ∃ ks : List (Key × V), Rd H a (.dK ks) ∧ PD (ct X ca) H kvs ks := by
  rcases h with h | h
  · obtain ⟨ks, hx, pd, _⟩ := I.dictAt h
    exact ⟨ks, .inl hx, pd⟩
  · obtain ⟨ob, ks, hx, pd, _⟩ := I.lckAt h
    exact ⟨ks, .inr ⟨ob, hx⟩, pd⟩
theorem dk_or {C : Ct} {kvs : List (D × D)} {ks : List (Key × V)} {k : Key} {x z : D} {zv : V} (kr : KRel x k) (pd : PD C H kvs ks) (rz : RD C H z zv) : RD C H ((dget kvs x).getD z) ((valV ks k).getD zv) := by
  obtain ⟨h1, h2⟩ := dget_val kr pd
  cases e : dget kvs x with
  | some d =>
    obtain ⟨v, l, r⟩ := h1 d e
    rw [l]; exact r
  | none =>
    have : (valV ks k).isSome = false := by
      rw [← h2]
      unfold dget at e
      rw [Option.map_eq_none_iff, List.find?_eq_none] at e
      unfold dhas
      rw [List.any_eq_false]
      exact fun p hp => by simpa using e p hp
    cases e2 : valV ks k with
    | none => exact rz
    | some v => rw [e2] at this; cases this
theorem m_dget (hu : X.A.units + 80 < cLine) : Mt3 ca X "dict.get" (fun x ds M Q => rcv x M = some .dct ∧ wpMth .get x ds M Q) := by
  intro pins s σ H M0 M σ3 x a v ds vs us Q I ra hx rv rd ⟨hk, h⟩
  obtain ⟨p, o, rfl, g, ho⟩ := rcv_dct hk
  have e : a = .ref p := hx; subst e
  cases ra
  have h' := wpMth_dct g ho h
  clear h
  match ds, h' with
  | [k], h' =>
    obtain ⟨kvs, hd, q⟩ := h'
    obtain ⟨y, rfl, ry⟩ := rd.one
    obtain ⟨u, rfl, ru⟩ := vals1 rv
    rcases dk_inv hd with ⟨eo, hk1⟩ | ⟨eo, hkt⟩
    · obtain ⟨ks, hr, pd⟩ := I.dkRd (a := p) (kvs := kvs) (by rcases eo with rfl | rfl; exact .inl g; exact .inr g)
      obtain ⟨kk, rfl, kr⟩ := key_rd ry hk1
      exact d_get1 (by omega) I.inv (.inl ⟨ks, kk, hr, rfl, rfl⟩) ru fun w' s' J rw' => ep_now I J rw' (dk_or kr pd (z := .non) (zv := .non) rfl) q
    · exact t_get1 (by omega) I (kvs := kvs) (by rcases eo with rfl | rfl; exact .inl g; exact .inr g) ry ru hkt fun w w' s' J r1 r2 => ep_now I J r2 r1 q
  | [k, z], h' =>
    obtain ⟨kvs, hd, q⟩ := h'
    obtain ⟨y, zv, rfl, ry, rz⟩ := rd.two
    obtain ⟨u, uz, rfl, ru, ruz⟩ := vals2 rv
    rcases dk_inv hd with ⟨eo, hk1⟩ | ⟨eo, hkt⟩
    · obtain ⟨ks, hr, pd⟩ := I.dkRd (a := p) (kvs := kvs) (by rcases eo with rfl | rfl; exact .inl g; exact .inr g)
      obtain ⟨kk, rfl, kr⟩ := key_rd ry hk1
      exact d_get2 (by omega) I.inv (.inl ⟨ks, kk, hr, rfl, rfl⟩) ru ruz fun w' s' J rw' => ep_now I J rw' (dk_or kr pd rz) q
    · exact t_get2 (by omega) I (kvs := kvs) (by rcases eo with rfl | rfl; exact .inl g; exact .inr g) ry ru hkt rz ruz fun w w' s' J r1 r2 => ep_now I J r2 r1 q
  | [], h' => exact h'.elim
  | _ :: _ :: _ :: _, h' => exact h'.elim
theorem pd_drop {C : Ct} {x : D} {k : Key} (hx : KRel x k) : ∀ {kvs : List (D × D)} {ks : List (Key × V)}, PD C H kvs ks → PD C H (ddel kvs x) (dropK ks k)
  | _, _, .nil => .nil
  | _, _, .cons (a := p) (b := q) r t => by
    have ih := pd_drop hx t
    unfold ddel dropK at ih ⊢
    have e := eqv_key r.1 hx
    by_cases hk : q.1 = k
    · simp only [List.filter_cons, e, hk, decide_true, Bool.not_true, Bool.false_eq_true, if_false, ne_eq, not_true_eq_false, decide_false]
      exact ih
    · simp only [List.filter_cons, e, hk, decide_false, Bool.not_false, if_true, ne_eq, not_false_eq_true, decide_true]
      exact .cons r ih
/-- a dict of ints and texts is written -/
theorem dk_wr {C : Ct} {a : Addr} {kvs kvs' : List (D × D)} {ks' : List (Key × V)} (r : RM C H M) (hm : M a = some (.dct kvs)) (pd : PD C H kvs' ks') : RM C (upd H a (.dK ks')) (mset M a (.dct kvs')) ∧ Stp H M (upd H a (.dK ks')) (mset M a (.dct kvs')) :=
  ⟨r.write (m' := .dct kvs') hm ⟨ks', rfl, PD.keep (r.tupKw hm) pd⟩, write_stp r hm⟩
theorem m_dpop (hu : X.A.units + 80 < cLine) : Mt3 ca X "dict.pop" (fun x ds M Q => rcv x M = some .dct ∧ wpMth .pop x ds M Q) := by
  intro pins s σ H M0 M σ3 x a v ds vs us Q I ra hx rv rd ⟨hk, h⟩
  obtain ⟨p, o, rfl, g, ho⟩ := rcv_dct hk
  have e : a = .ref p := hx; subst e
  cases ra
  have h' := wpMth_dct g ho h
  clear h
  match ds, h' with
  | [k], h' =>
    obtain ⟨y, rfl, ry⟩ := rd.one
    obtain ⟨u, rfl, ru⟩ := vals1 rv
    rcases ho with ⟨kvs, rfl⟩ | ⟨kvs, rfl⟩ | ⟨kvs, rfl⟩ | ⟨kvs, rfl⟩
    · obtain ⟨hk1, d, hd, q⟩ := h'
      obtain ⟨ks, hH, pd, _⟩ := I.dictAt g
      obtain ⟨kk, rfl, kr⟩ := key_rd ry hk1
      obtain ⟨w, l, rw'⟩ := (dget_val kr pd).1 d hd
      obtain ⟨rm, st⟩ := dk_wr I.hp g (pd_drop kr pd)
      exact d_pop I.inv hH ru l (.inl rfl) fun w' s' J r2 => ⟨d, _, w, _, I.to J rm st, r2, rw'.keep (st.tupK I.hp), st, q⟩
    · exact h'.elim
    · obtain ⟨hkt, d, hd, q⟩ := h'
      exact t_pop (by omega) I g ry ru hkt hd (.inl rfl) fun H2 w w' s' I2 st r1 r2 => ⟨d, _, w, H2, I2, r2, r1, st, q⟩
    · exact h'.elim
  | [k, z], h' =>
    obtain ⟨y, zv, rfl, ry, rz⟩ := rd.two
    obtain ⟨u, uz, rfl, ru, ruz⟩ := vals2 rv
    rcases ho with ⟨kvs, rfl⟩ | ⟨kvs, rfl⟩ | ⟨kvs, rfl⟩ | ⟨kvs, rfl⟩
    · obtain ⟨hk1, q⟩ := h'
      obtain ⟨ks, hH, pd, _⟩ := I.dictAt g
      obtain ⟨kk, rfl, kr⟩ := key_rd ry hk1
      cases hd : dget kvs k with
      | some d =>
        rw [hd] at q
        obtain ⟨w, l, rw'⟩ := (dget_val kr pd).1 d hd
        obtain ⟨rm, st⟩ := dk_wr I.hp g (pd_drop kr pd)
        exact d_pop I.inv hH ru l (.inr ⟨uz, rfl⟩) fun w' s' J r2 => ⟨d, _, w, _, I.to J rm st, r2, rw'.keep (st.tupK I.hp), st, q⟩
      | none =>
        rw [hd] at q
        have hl : valV ks kk = none := by
          have h2 := (dget_val kr pd).2
          unfold dget at hd
          rw [Option.map_eq_none_iff, List.find?_eq_none] at hd
          have : dhas kvs k = false := by
            unfold dhas
            rw [List.any_eq_false]
            exact fun p hp => by simpa using hd p hp
          rw [this] at h2
          cases e2 : valV ks kk with
          | none => rfl
          | some v => rw [e2] at h2; cases h2
        exact d_popD I.inv hH ru hl fun s' J => ep_now I J ruz rz q
    · exact h'.elim
    · obtain ⟨hkt, q⟩ := h'
      cases hd : dget kvs k with
      | some d =>
        rw [hd] at q
        exact t_pop (by omega) I g ry ru hkt hd (.inr ⟨uz, rfl⟩) fun H2 w w' s' I2 st r1 r2 => ⟨d, _, w, H2, I2, r2, r1, st, q⟩
      | none =>
        rw [hd] at q
        exact t_popD (by omega) I g ry ru hkt hd fun s' J => ep_now I J ruz rz q
    · exact h'.elim
  | [], h' => exact h'.elim
  | _ :: _ :: _ :: _, h' => exact h'.elim
theorem m_tupIndex : Mt3 ca X "tuple.index" (fun x ds M Q => rcv x M = some .tup ∧ wpMth .index x ds M Q) := mt3_of mt_tup_index fun H M x a ds vs Q r hx hd ⟨hk, h⟩ => by
  cases x with
  | kt xs =>
    match ds, h with
    | [d], h =>
      obtain ⟨ys, z, j, e1, e2, h1, h2, q⟩ := h
      subst e1 e2
      obtain ⟨p, ws, rfl, hq, rs⟩ := hx
      obtain ⟨v, rfl, rv⟩ := hd.one
      have ev : v = .str z := rv
      subst ev
      have ew : ∀ {ys : List Str} {ws : List V}, RDs (ct X ca) H (ys.map D.str) ws → ws = ys.map V.str := by
        intro ys
        induction ys with
        | nil => intro ws r; exact r
        | cons y ys ih =>
          intro ws r
          obtain ⟨w, l, rfl, r1, r2⟩ := r
          rw [ih r2, show w = .str y from r1]
          rfl
      rw [ew rs] at hq
      exact ⟨p, ys, z, j, rfl, rfl, sqk hq, h1, h2, qv_int r q⟩
    | [], h => exact h.elim
    | _ :: _ :: _, h => exact h.elim
  | ref p =>
    exfalso
    cases g : M p with
    | none => simp only [rcv, g] at hk; cases hk
    | some o => cases o <;> (simp only [rcv, g] at hk; cases hk)
  | _ => cases hk
theorem m_strIndex : Mt3 ca X "str.index" (fun x ds M Q => rcv x M = some .str ∧ wpMth .index x ds M Q) := mt3_of mt_sindex fun H M x a ds vs Q r hx hd ⟨hk, h⟩ => by
  cases x with
  | str z =>
    match ds, h with
    | [.str y], h =>
      obtain ⟨i, rest, ho, q⟩ := h
      obtain ⟨v, rfl, rv⟩ := hd.one
      exact ⟨z, y, i, rest, hx, by rw [show v = .str y from rv], ho, qv_int r q⟩
    | [], h => exact h.elim
    | _ :: _ :: _, h => simp only [wpMth] at h
  | ref p =>
    exfalso
    cases g : M p with
    | none => simp only [rcv, g] at hk; cases hk
    | some o => cases o <;> (simp only [rcv, g] at hk; cases hk)
  | _ => cases hk
end
end L3
end
section
set_option autoImplicit false
set_option linter.all false
set_option maxRecDepth 100000
/-! L3: the small language's preconditions are sound for expressions -/
namespace L3
open PySem L2 PyProof.Rows

/-! ### what a def promises -/
def CR3 (C : Ct) (outer : List Env) (H : Hp) (M : Mp) (s : Shared) (Q : Post) (r : Result) (s' : Shared) : Prop := match r with
  | .ok (.ret u) => CE outer C.P C.w H s (QV C H M Q) u s'
  | _ => False
structure FnG (C : Ct) (mg : Str → Option Value) (base : Heap) (k : Nat) (f : Addr) (fd : FuncData) (ps : List Str) (sp : Spec) : Prop where
  len : ∀ ds M Q X, sp ds M Q X → ds.length = ps.length
  run : ∀ (A : Around) (outer : List Env) (s : Shared) (H : Hp) (args : Args) (us : List Value) (vs : List V) (ds : List D) (M : Mp) (Q : Post) (X : Xp),
    Room k A → A.guards = some [] → Env0 C.P C.w C.K mg base A outer s H → BindsTo s fd args (ps.zip us) → Vals vs us → RDs C H ds vs → RM C H M → sp ds M Q X →
    codeAny (model C.P C.w) A (.call (.ref f) args) (CR3 C outer H M s Q) s
theorem FnG.mono {C : Ct} {mg : Str → Option Value} {base : Heap} {j k : Nat} {f : Addr} {fd : FuncData} {ps : List Str} {sp : Spec} (F : FnG C mg base j f fd ps sp) (h : j ≤ k) : FnG C mg base k f fd ps sp :=
  ⟨F.len, fun A outer s H args us vs ds M Q X hr => F.run A outer s H args us vs ds M Q X (hr.mono h)⟩

section
variable {ca : Nat → Addr} {X : Cx} {M0 M : Mp} {pins : List (Addr × Obj)} {σ3 : Lo} {σ : L2.St} {H : Hp} {s : Shared}
theorem run_fng {k : Nat} {f : Addr} {fd : FuncData} {ps : List Str} {sp : Spec} {us : List Value} {vs : List V} {ds : List D} {Q : Post} {X3 : Xp} (F : FnG (ct X ca) X.mg X.base k f fd ps sp) (hr : Room k X.A) (hg : X.A.guards = some []) (hb : Binds X.K fd ps [])
    (I : I3 (ct X ca) X M0 pins σ3 M σ H s) (r : Vals vs us) (rd : RDs (ct X ca) H ds vs) (h : sp ds M Q X3) : wpAny (model X.prog X.w) X.A (call (.ref f) us) (EP3 (ct X ca) X M0 pins σ3 σ H M Q) X.xe s := by
  have hl : (us ++ []).length = ps.length := by rw [List.append_nil, ← r.length, ← rd.length]; exact F.len _ _ _ _ h
  have hb' := hb s us I.inv.kIn hl
  rw [List.append_nil] at hb'
  refine wpAny_call (codeAny_mono (F.run X.A X.stack s H ⟨us, []⟩ us vs ds M Q X3 hr hg I.inv.env0 hb' r rd I.hp h) fun res s' hq => ?_)
  match res, hq with
  | .ok (.ret u), hq => exact ep_of I (I.inv.after hq)

/-! ### the context -/
/-- what the names of the module stand for -/
structure GOk (ca : Nat → Addr) (X : Cx) (P : Pr) (gl : List (Str × GR)) : Prop where
  fn : ∀ x i, gl.lookup x = some (.fn i) → ∃ k f fd ps, X.mg x = some (.ref f) ∧ PySem.W.keepIn X.K (.ref f) = true ∧ Binds X.K fd ps [] ∧ Room k X.A ∧ FnG (ct X ca) X.mg X.base k f fd ps (P.sp i)
  blt : ∀ x, gl.lookup x = some .blt → X.mg x = none
  cls : ∀ x c i, gl.lookup x = some (.cls c i) → ∃ k f fd ps, X.mg x = some (.ref (ca c)) ∧ Mk X.K (ca c) f ∧ Binds X.K fd ps [] ∧ Room (k + 1) X.A ∧ FnG (ct X ca) X.mg X.base k f fd ps (P.sp i)
  mth : ∀ m c i, gl.lookup (dotted m) = some (.mth c i) → ∃ k f fd ps, Cls X.K (ca c) ∧ Meth X.K (ca c) m f ∧ Binds X.K fd ps [] ∧ Room k X.A ∧ FnG (ct X ca) X.mg X.base k f fd ps (P.sp i)
  fl : ∀ c f, P.fl c f = true → Cls X.K (ca c) ∧ NoAttr X.K (ca c) f
  con : ∀ x d, gl.lookup x = some (.con d) → ∃ u v, X.mg x = some u ∧ RelV v u ∧ (∀ H, RD (ct X ca) H d v) ∧ ∀ ds, d = .kt ds → ∃ a o, v = .ref a ∧ X.K.lookup a = some o ∧ o.cls = .type "tuple" ∧ o.dict = none
structure Ok3 (ca : Nat → Addr) (X : Cx) (P : Pr) (cc : CC) : Prop where
  N : cc.N = X.N
  sc : cc.sc = X.env.scope
  nd : X.N.Nodup
  g : GOk ca X P cc.gl
  hu : X.A.units + 80 < cLine
  hg : X.A.guards = some []
  hc : X.calm = true
  sy : SysD X.K
  cell : cc.cs = true → ∀ x, X.env.scope.names.lookup x = some .cell → X.fn x = true

def SndE (ca : Nat → Addr) (X : Cx) (M0 : Mp) (P : Pr) (X3 : Xp) (e : Expr) (i : E) : Prop :=
  ∀ (pins : List (Addr × Obj)) (s : Shared) (σ : L2.St) (H : Hp) (σ3 : Lo) (M : Mp) (Q : Post), I3 (ct X ca) X M0 pins σ3 M σ H s → wpE P X3 i σ3 M Q →
    wpAny (model X.prog X.w) X.A (eval e X.env) (EP3 (ct X ca) X M0 pins σ3 σ H M Q) X.xe s
def SndEs (ca : Nat → Addr) (X : Cx) (M0 : Mp) (P : Pr) (X3 : Xp) (es : List Expr) (i : Es) : Prop :=
  ∀ (pos : Pos) (pins : List (Addr × Obj)) (s : Shared) (σ : L2.St) (H : Hp) (σ3 : Lo) (M : Mp) (Q : List D → Mp → Prop), I3 (ct X ca) X M0 pins σ3 M σ H s → wpEs P X3 i σ3 M Q →
    wpAny (model X.prog X.w) X.A (spliced (backTo pos (starEach es X.env))) (EPs3 (ct X ca) X M0 pins σ3 σ H M Q) X.xe s
def SndT (ca : Nat → Addr) (X : Cx) (M0 : Mp) (P : Pr) (X3 : Xp) (e : Expr) (i : T) : Prop :=
  ∀ (whole : Sem Value) (pins : List (Addr × Obj)) (s : Shared) (σ : L2.St) (H : Hp) (σ3 : Lo) (M : Mp) (k : Bool → Mp → Prop), (whole = eval e X.env ∨ ∃ o l p, e = .BoolOp o l p) → I3 (ct X ca) X M0 pins σ3 M σ H s → wpT P X3 i σ3 M k →
    wpAny (model X.prog X.w) X.A (isTrue e X.env whole) (TP3 (ct X ca) X M0 pins σ3 σ H M k) X.xe s

theorem findIdx_get {N : List Str} {x : Str} {i : Nat} (h : N.findIdx? (· == x) = some i) : N[i]? = some x := by
  obtain ⟨hl, he, _⟩ := List.findIdx?_eq_some_iff_getElem.mp h
  rw [List.getElem?_eq_getElem hl]
  simpa using he
theorem slot_ok {P : Pr} {cc : CC} {x : Str} {i : Nat} (ok : Ok3 ca X P cc) (h : cc.slot x = some i) : X.N[i]? = some x ∧ Vis X.env.scope x ∧ (x == ("__debug__" : Str)) = false ∧ (x == ("__classdict__" : Str)) = false := by
  unfold CC.slot at h
  rw [ok.N, ok.sc] at h
  cases e1 : (x == ("__debug__" : Str)) with
  | true => rw [e1] at h; cases h
  | false =>
    cases e2 : (x == ("__classdict__" : Str)) with
    | true => rw [e1, e2] at h; cases h
    | false =>
      rw [e1, e2] at h
      cases e : X.env.scope.names.lookup x with
      | none => rw [e] at h; cases h
      | some k =>
        rw [e] at h
        cases k with
        | «local» => exact ⟨findIdx_get h, .inl e, rfl, rfl⟩
        | cell => exact ⟨findIdx_get h, .inr (.inl e), rfl, rfl⟩
        | free => exact ⟨findIdx_get h, .inr (.inr e), rfl, rfl⟩
        | _ => cases h
theorem slotW_ok {P : Pr} {cc : CC} {x : Str} {i : Nat} (ok : Ok3 ca X P cc) (h : cc.slotW x = some i) : X.N[i]? = some x ∧ Loc X.env.scope x ∧ (X.fn x = true ∨ X.env.scope.names.lookup x = some .local) := by
  unfold CC.slotW at h
  rw [ok.N, ok.sc] at h
  cases e : X.env.scope.names.lookup x with
  | none => rw [e] at h; cases h
  | some k =>
    rw [e] at h
    cases k with
    | «local» => exact ⟨findIdx_get h, .inl e, .inr rfl⟩
    | cell =>
      cases ec : cc.cs with
      | true => exact ⟨findIdx_get (by rw [ec] at h; exact h), .inr e, .inl (ok.cell ec x e)⟩
      | false => rw [ec] at h; cases h
    | _ => cases h
theorem glob_ok {P : Pr} {cc : CC} {x : Str} {g : GR} (ok : Ok3 ca X P cc) (h : cc.glob x = some g) : Gl X x ∧ cc.gl.lookup x = some g ∧ (x == ("__debug__" : Str)) = false ∧ x ≠ "__name__" := by
  unfold CC.glob at h
  rw [ok.sc] at h
  cases e1 : (x == ("__debug__" : Str)) with
  | true => rw [e1] at h; cases h
  | false =>
    cases e2 : (x == ("__name__" : Str)) with
    | true => rw [e1, e2] at h; cases h
    | false =>
      rw [e1, e2] at h
      cases e : X.env.scope.names.lookup x with
      | none => rw [e] at h; cases h
      | some k =>
        rw [e] at h
        cases k with
        | globalImplicit => exact ⟨e, h, rfl, by simpa using e2⟩
        | _ => cases h

variable {P : Pr} {X3 : Xp} {cc : CC}
/-! ### one rule a construct -/
theorem s_var {x : Str} {pos : Pos} {i : Nat} (ok : Ok3 ca X P cc) (h : cc.slot x = some i) : SndE ca X M0 P X3 (.Name x pos) (.var i) := by
  intro pins s σ H σ3 M Q I hw
  obtain ⟨hN, hv, hd, hcd⟩ := slot_ok ok h
  obtain ⟨d, e, q⟩ := hw
  obtain ⟨v, ev, rd⟩ := I.lo.2 i d e
  exact thn ((pe_var hN hv hd hcd).run pins s σ H (QV (ct X ca) H M Q) I.inv ⟨v, ev, qv_now I.hp rd q⟩) fun _ _ e => ep_of I e
theorem s_con {x : Str} {pos : Pos} {d : D} (ok : Ok3 ca X P cc) (h : cc.glob x = some (.con d)) : SndE ca X M0 P X3 (.Name x pos) (.con d) := by
  intro pins s σ H σ3 M Q I hw
  obtain ⟨hg, hl, hd, _⟩ := glob_ok ok h
  obtain ⟨u, v, hm, rv, rd, _⟩ := ok.g.con x d hl
  exact ld_glob I.inv hg hm (ep_now I I.inv rv (rd H).cn hw) hd
theorem s_int {i : Int} {j : Nat} {pos : Pos} : SndE ca X M0 P X3 (.Constant (.int i) j pos) (.int i) := fun pins s σ H σ3 M Q I hw =>
  thn (pe_int.run pins s σ H (QV (ct X ca) H M Q) I.inv (qv_int I.hp hw)) fun _ _ e => ep_of I e
theorem s_bl {i : Bool} {j : Nat} {pos : Pos} : SndE ca X M0 P X3 (.Constant (.bool i) j pos) (.bl i) := fun pins s σ H σ3 M Q I hw =>
  thn (pe_bl.run pins s σ H (QV (ct X ca) H M Q) I.inv (qv_bl I.hp hw)) fun _ _ e => ep_of I e
theorem s_str {i : Str} {j : Nat} {pos : Pos} : SndE ca X M0 P X3 (.Constant (.str i) j pos) (.str i) := fun pins s σ H σ3 M Q I hw =>
  thn (pe_str.run pins s σ H (QV (ct X ca) H M Q) I.inv (qv_str I.hp hw)) fun _ _ e => ep_of I e
theorem s_non {j : Nat} {pos : Pos} : SndE ca X M0 P X3 (.Constant .none j pos) .non := fun pins s σ H σ3 M Q I hw =>
  thn (pe_non.run pins s σ H (QV (ct X ca) H M Q) I.inv (qv_non I.hp hw)) fun _ _ e => ep_of I e
/-- two in a row -/
theorem two {a b : Expr} {ia ib : E} (ha : SndE ca X M0 P X3 a ia) (hb : SndE ca X M0 P X3 b ib) {R : D → D → Mp → Prop} (I : I3 (ct X ca) X M0 pins σ3 M σ H s)
    (hw : wpE P X3 ia σ3 M fun x M1 => wpE P X3 ib σ3 M1 fun y M2 => R x y M2) {α : Type} {F : Value → Value → Sem α} {Z : α → Shared → Prop}
    (h : ∀ (v u : Value) (s2 : Shared) (x y : D) (av bv : V) (M2 : Mp) (H2 : Hp), I3 (ct X ca) X M0 pins σ3 M2 σ H2 s2 → RelV av v → RelV bv u → RD (ct X ca) H2 x av → RD (ct X ca) H2 y bv → Stp H M H2 M2 → R x y M2 → wpAny (model X.prog X.w) X.A (F v u) Z X.xe s2) :
    wpAny (model X.prog X.w) X.A (eval a X.env) (fun v s₁ => wpAny (model X.prog X.w) X.A (eval b X.env) (fun u s₂ => wpAny (model X.prog X.w) X.A (F v u) Z X.xe s₂) X.xe s₁) X.xe s := by
  refine thn (ha pins s σ H σ3 M _ I hw) fun v s1 ⟨x, M1, av, H1, I1, rv, rd, st, hw1⟩ => ?_
  refine thn (hb pins s1 σ H1 σ3 M1 _ I1 hw1) fun u s2 ⟨y, M2, bv, H2, I2, rv2, rd2, st2, hw2⟩ => ?_
  exact h v u s2 x y av bv M2 H2 I2 rv rv2 (rd.keep (st2.tupK I1.hp)) rd2 (st.trans st2) hw2
theorem ep_st {H1 : Hp} {M1 : Mp} {Q : Post} {u : Value} {s' : Shared} (st : Stp H M H1 M1) (h : EP3 (ct X ca) X M0 pins σ3 σ H1 M1 Q u s') : EP3 (ct X ca) X M0 pins σ3 σ H M Q u s' := ep_after st h
theorem tp_st {H1 : Hp} {M1 : Mp} {k : Bool → Mp → Prop} {b : Bool} {s' : Shared} (st : Stp H M H1 M1) (h : TP3 (ct X ca) X M0 pins σ3 σ H1 M1 k b s') : TP3 (ct X ca) X M0 pins σ3 σ H M k b s' := by
  obtain ⟨M', H', I, st', q⟩ := h
  exact ⟨M', H', I, st.trans st', q⟩
theorem s_bin {a b : Expr} {ia ib : E} {pos : Pos} {o : Operator} {o' : BOp} (ho : cBop o = some o') (ha : SndE ca X M0 P X3 a ia) (hb : SndE ca X M0 P X3 b ib) : SndE ca X M0 P X3 (.BinOp a o b pos) (.bin o' ia ib) := by
  intro pins s σ H σ3 M Q I hw
  have e : o = bop o' := by
    cases o <;> cases o' <;> first | rfl | cases ho
  subst e
  refine wpAny_BinOp (two ha hb I hw fun v u s2 x y av bv M2 H2 I2 rv rv2 rd rd2 st q => ?_)
  exact thn (o_bin o' pins s2 σ H2 M0 M2 σ3 x y av bv v u Q I2 rv rv2 rd rd2 q) fun _ _ e => ep_st st e
theorem cop_c (o : CmpOp) : cop (cCop o) = o := by cases o <;> rfl
theorem s_cmp {a b : Expr} {ia ib : E} {pos : Pos} {o : CmpOp} (ok : Ok3 ca X P cc) (hm : behindInMarks o b = false) (ha : SndE ca X M0 P X3 a ia) (hb : SndE ca X M0 P X3 b ib) : SndE ca X M0 P X3 (.Compare a [o] [b] pos) (.cmp (cCop o) ia ib) := by
  intro pins s σ H σ3 M Q I hw
  refine wpAny_Compare1 (two ha hb I hw fun v u s2 x y av bv M2 H2 I2 rv rv2 rd rd2 st q => ?_) hm
  have := o_cmp ok.hu ok.sy (cCop o) (ca := ca) pins s2 σ H2 M0 M2 σ3 x y av bv v u Q I2 rv rv2 rd rd2 q
  rw [cop_c] at this
  exact thn this fun _ _ e => ep_st st e
theorem s_cmpT {a b : Expr} {ia ib : E} {pos : Pos} {o : CmpOp} (ok : Ok3 ca X P cc) (hm : behindInMarks o b = false) (ha : SndE ca X M0 P X3 a ia) (hb : SndE ca X M0 P X3 b ib) : SndT ca X M0 P X3 (.Compare a [o] [b] pos) (.val (.cmp (cCop o) ia ib)) := by
  intro whole pins s σ H σ3 M k hwh I hw
  refine wpAny_isTrue_Compare1 (two ha hb I hw fun v u s2 x y av bv M2 H2 I2 rv rv2 rd rd2 st q => ?_) hm
  have := o_cmp ok.hu ok.sy (cCop o) (ca := ca) pins s2 σ H2 M0 M2 σ3 x y av bv v u (fun x M1 => L3.truthy x M1 fun r => k r M1) I2 rv rv2 rd rd2 q
  rw [cop_c] at this
  exact thn this fun c s3 ⟨d, M3, v3, H3, I3', r3, rd3, st3, q3⟩ => thn (o_tru I3' r3 rd3 q3) fun _ _ e => tp_st (st.trans st3) e
theorem s_un {a : Expr} {ia : E} {pos : Pos} (ha : SndE ca X M0 P X3 a ia) : SndE ca X M0 P X3 (.UnaryOp .USub a pos) (.un .neg ia) := by
  intro pins s σ H σ3 M Q I hw
  refine UnaryOp_ (thn (ha pins s σ H σ3 M _ I hw) fun v s1 ⟨x, M1, av, H1, I1, rv, rd, st, hw1⟩ => ?_)
  exact thn (o_neg I1 rv rd hw1) fun _ _ e => ep_st st e
theorem s_not {a : Expr} {ia : E} {pos : Pos} (ha : SndE ca X M0 P X3 a ia) : SndE ca X M0 P X3 (.UnaryOp .Not a pos) (.not ia) := by
  intro pins s σ H σ3 M Q I hw
  refine UnaryOp_ (thn (ha pins s σ H σ3 M _ I hw) fun v s1 ⟨x, M1, av, H1, I1, rv, rd, st, hw1⟩ => ?_)
  refine not_of (thn (o_tru (k := fun r M1 => Q (.bl (!r)) M1) I1 rv rd hw1) fun c s2 ⟨M2, H2, I2, st2, q2⟩ => ?_)
  exact ep_st (st.trans st2) (ep_bl I2 I2.inv q2)
theorem s_and {a b : Expr} {l : List Expr} {ia ib : E} {pos : Pos} (ha : SndE ca X M0 P X3 a ia) (hb : SndE ca X M0 P X3 (.BoolOp .And (b :: l) pos) ib) : SndE ca X M0 P X3 (.BoolOp .And (a :: b :: l) pos) (.and ia ib) := by
  intro pins s σ H σ3 M Q I hw
  refine BoolOp_and (thn (ha pins s σ H σ3 M _ I hw) fun v s1 ⟨x, M1, av, H1, I1, rv, rd, st, hw1⟩ => ?_)
  refine thn (o_tru (k := fun r M1 => if r = true then wpE P X3 ib σ3 M1 Q else Q x M1) I1 rv rd hw1) fun c s2 ⟨M2, H2, I2, st2, q2⟩ => ?_
  cases c with
  | true => exact thn (hb pins s2 σ H2 σ3 M2 Q I2 q2) fun _ _ e => ep_st (st.trans st2) e
  | false => exact ⟨x, M2, av, H2, I2, rv, rd.keep (st2.tupK I1.hp), st.trans st2, q2⟩
theorem s_or {a b : Expr} {l : List Expr} {ia ib : E} {pos : Pos} (ha : SndE ca X M0 P X3 a ia) (hb : SndE ca X M0 P X3 (.BoolOp .Or (b :: l) pos) ib) : SndE ca X M0 P X3 (.BoolOp .Or (a :: b :: l) pos) (.or ia ib) := by
  intro pins s σ H σ3 M Q I hw
  refine BoolOp_or (thn (ha pins s σ H σ3 M _ I hw) fun v s1 ⟨x, M1, av, H1, I1, rv, rd, st, hw1⟩ => ?_)
  refine thn (o_tru (k := fun r M1 => if r = true then Q x M1 else wpE P X3 ib σ3 M1 Q) I1 rv rd hw1) fun c s2 ⟨M2, H2, I2, st2, q2⟩ => ?_
  cases c with
  | false => exact thn (hb pins s2 σ H2 σ3 M2 Q I2 q2) fun _ _ e => ep_st (st.trans st2) e
  | true => exact ⟨x, M2, av, H2, I2, rv, rd.keep (st2.tupK I1.hp), st.trans st2, q2⟩
theorem s_ite {c a b : Expr} {ic : T} {ia ib : E} {pos : Pos} (hc : SndT ca X M0 P X3 c ic) (ha : SndE ca X M0 P X3 a ia) (hb : SndE ca X M0 P X3 b ib) : SndE ca X M0 P X3 (.IfExp c a b pos) (.ite ic ia ib) := by
  intro pins s σ H σ3 M Q I hw
  refine wpAny_IfExp (thn (hc _ pins s σ H σ3 M _ (.inl rfl) I hw) fun d s1 ⟨M1, H1, I1, st, hw1⟩ => ?_)
  cases d with
  | true => exact thn (ha pins s1 σ H1 σ3 M1 Q I1 hw1) fun _ _ e => ep_st st e
  | false => exact thn (hb pins s1 σ H1 σ3 M1 Q I1 hw1) fun _ _ e => ep_st st e
theorem s_nil : SndEs ca X M0 P X3 [] .nil := fun pos pins s σ H σ3 M Q I hw => Calls.spliced_nil ⟨[], M, [], H, I, .nil, rfl, Stp.refl, hw⟩
theorem star_ok {e : Expr} {es : List Expr} {env : Env} (h : notStar e = true) : starEach (e :: es) env = (false, eval e env) :: starEach es env := by
  cases e <;> first | rfl | cases h
theorem s_cons {e : Expr} {es : List Expr} {ie : E} {ies : Es} (hn : notStar e = true) (ha : SndE ca X M0 P X3 e ie) (hb : SndEs ca X M0 P X3 es ies) : SndEs ca X M0 P X3 (e :: es) (.cons ie ies) := by
  intro pos pins s σ H σ3 M Q I hw
  rw [star_ok hn]
  show wpAny _ _ (spliced ((false, eval e X.env) :: backTo pos (starEach es X.env))) _ _ s
  refine Calls.spliced_cons (thn (ha pins s σ H σ3 M _ I hw) fun v s1 ⟨x, M1, av, H1, I1, rv, rd, st, hw1⟩ => ?_)
  refine thn (hb pos pins s1 σ H1 σ3 M1 _ I1 hw1) fun us s2 ⟨ds, M2, vs, H2, I2, rv2, rd2, st2, hw2⟩ => ?_
  exact ⟨x :: ds, M2, av :: vs, H2, I2, .cons rv rv2, ⟨av, vs, rfl, rd.keep (st2.tupK I1.hp), rd2⟩, st.trans st2, hw2⟩
theorem s_tup {es : List Expr} {ies : Es} {x1 : Nat} {pos : Pos} (h : SndEs ca X M0 P X3 es ies) : SndE ca X M0 P X3 (.Tuple es x1 pos) (.tup ies) := by
  intro pins s σ H σ3 M Q I hw
  refine wpAny_Tuple_spliced (thn (h pos pins s σ H σ3 M _ I hw) fun us s1 ⟨ds, M1, vs, H1, I1, rv, rd, st, hz, q⟩ => ⟨by rw [← rv.length, ← rd.length]; exact hz, ?_⟩)
  have hf : H1 s1.heap.objs.size = none := I1.inv.hok.fresh (Nat.le_refl _)
  have J : Inv X pins σ (upd H1 s1.heap.objs.size (.tup vs)) { s1 with heap := s1.heap.push { cls := .type "tuple", data := .seq us.toArray } } :=
    I1.inv.laid (t' := s1.toks) (fun b u e => Heap.get?_push_of_some _ e) (Nat.le_refl _) ⟨by rw [← rd.length]; exact hz, us, rv, ⟨_, Heap.get?_push_size _ rfl, rfl, _, rfl⟩⟩
  exact ep_st st (ep_of I1 ⟨.ref s1.heap.objs.size, _, J, rfl, qv_tup I1.hp hf rd q⟩)
theorem s_lst {es : List Expr} {ies : Es} {pos : Pos} (h : SndEs ca X M0 P X3 es ies) : SndE ca X M0 P X3 (.List es pos) (.lst ies) := by
  intro pins s σ H σ3 M Q I hw
  refine wpAny_List_spliced (thn (h pos pins s σ H σ3 M _ I hw) fun us s1 ⟨ds, M1, vs, H1, I1, rv, rd, st, hz, q⟩ => ⟨by rw [← rv.length, ← rd.length]; exact hz, ?_⟩)
  have hf : H1 s1.heap.objs.size = none := I1.inv.hok.fresh (Nat.le_refl _)
  have J : Inv X pins σ (upd H1 s1.heap.objs.size (.lst vs)) { s1 with heap := s1.heap.push { cls := .type "list", data := .seq us.toArray } } :=
    I1.inv.laid (t' := s1.toks) (fun b u e => Heap.get?_push_of_some _ e) (Nat.le_refl _) ⟨by rw [← rd.length]; exact hz, us, 0, rv, Heap.get?_push_size _ rfl⟩
  exact ep_st st (ep_of I1 ⟨.ref s1.heap.objs.size, _, J, rfl, qv_new I1.hp hf (m := .lst ds) rd q⟩)
theorem sub_ok {b : Expr} (h : notSlice b = true) (o i : Value) : subscripted b false o i = operate [o, i] (getItem o i) := by
  cases b <;> first | rfl | cases h
theorem s_ix {a b : Expr} {ia ib : E} {pos : Pos} (ok : Ok3 ca X P cc) (hn : notSlice b = true) (ha : SndE ca X M0 P X3 a ia) (hb : SndE ca X M0 P X3 b ib) : SndE ca X M0 P X3 (.Subscript a b pos) (.ix ia ib) := by
  intro pins s σ H σ3 M Q I hw
  refine Subscript_ (two ha hb I hw fun v u s2 x y av bv M2 H2 I2 rv rv2 rd rd2 st q => ?_)
  exact thn (o_ix (by have := ok.hu; omega) I2 rv rv2 rd rd2 q (sub_ok hn v u)) fun _ _ e => ep_st st e
/-! ### tests -/
theorem t_val {e : Expr} {ie : E} (hp : plainTest e = true) (h : SndE ca X M0 P X3 e ie) : SndT ca X M0 P X3 e (.val ie) := by
  intro whole pins s σ H σ3 M k hwh I hw
  have hwh' : whole = eval e X.env := by
    rcases hwh with z | ⟨o, l, p, z⟩
    · exact z
    · subst z; cases hp
  subst hwh'
  have he : isTrue e X.env (eval e X.env) = (do let v ← eval e X.env; standAt e.pos; holding [v] (PySem.truthy v)) := by
    cases e <;> first | rfl | cases hp
  refine isTrue_plain (thn (h pins s σ H σ3 M _ I hw) fun v s1 ⟨x, M1, av, H1, I1, rv, rd, st, hw1⟩ => ?_) he
  exact thn (o_tru I1 rv rd hw1) fun _ _ e => tp_st st e
theorem t_not {a : Expr} {ia : T} {pos : Pos} (h : SndT ca X M0 P X3 a ia) : SndT ca X M0 P X3 (.UnaryOp .Not a pos) (.not ia) := by
  intro whole pins s σ H σ3 M k hwh I hw
  refine isTrue_not (thn (h _ pins s σ H σ3 M _ (.inl rfl) I hw) fun c s1 ⟨M1, H1, I1, st, q⟩ => ⟨M1, H1, I1, st, q⟩)
theorem t_and {a b : Expr} {l : List Expr} {ia ib : T} {pos : Pos} (ha : SndT ca X M0 P X3 a ia) (hb : SndT ca X M0 P X3 (.BoolOp .And (b :: l) pos) ib) : SndT ca X M0 P X3 (.BoolOp .And (a :: b :: l) pos) (.and ia ib) := by
  intro whole pins s σ H σ3 M k hwh I hw
  refine isTrue_and (thn (ha _ pins s σ H σ3 M _ (.inl rfl) I hw) fun c s1 ⟨M1, H1, I1, st, q⟩ => ?_)
  cases c with
  | true => exact thn (hb whole pins s1 σ H1 σ3 M1 k (.inr ⟨_, _, _, rfl⟩) I1 q) fun _ _ e => tp_st st e
  | false => exact ⟨M1, H1, I1, st, q⟩
theorem t_or {a b : Expr} {l : List Expr} {ia ib : T} {pos : Pos} (ha : SndT ca X M0 P X3 a ia) (hb : SndT ca X M0 P X3 (.BoolOp .Or (b :: l) pos) ib) : SndT ca X M0 P X3 (.BoolOp .Or (a :: b :: l) pos) (.or ia ib) := by
  intro whole pins s σ H σ3 M k hwh I hw
  refine isTrue_or (thn (ha _ pins s σ H σ3 M _ (.inl rfl) I hw) fun c s1 ⟨M1, H1, I1, st, q⟩ => ?_)
  cases c with
  | false => exact thn (hb whole pins s1 σ H1 σ3 M1 k (.inr ⟨_, _, _, rfl⟩) I1 q) fun _ _ e => tp_st st e
  | true => exact ⟨M1, H1, I1, st, q⟩
theorem t_one {o : BoolOp} {a : Expr} {ia : T} {pos : Pos} (ha : SndT ca X M0 P X3 a ia) : SndT ca X M0 P X3 (.BoolOp o [a] pos) ia := by
  intro whole pins s σ H σ3 M k hwh I hw
  cases o with
  | And =>
    refine isTrue_and (thn (ha _ pins s σ H σ3 M k (.inl rfl) I hw) fun c s1 e => ?_)
    cases c with
    | true => exact isTrue_and_nil e
    | false => exact e
  | Or =>
    refine isTrue_or (thn (ha _ pins s σ H σ3 M k (.inl rfl) I hw) fun c s1 e => ?_)
    cases c with
    | false => exact isTrue_or_nil e
    | true => exact e
end
end L3
end
section
set_option autoImplicit false
set_option linter.all false
set_option maxRecDepth 100000
/-! L3: calls -/
namespace L3
open PySem L2 PyProof.Rows

section
variable {ca : Nat → Addr} {X : Cx} {M0 M : Mp} {pins : List (Addr × Obj)} {σ3 : Lo} {σ : L2.St} {H : Hp} {s : Shared} {P : Pr} {X3 : Xp} {cc : CC}
def Plain (es : List Expr) : Prop := ∀ e ∈ es, notStar e = true
theorem plain_any {pos : Pos} {env : Env} : ∀ {es : List Expr}, Plain es → (backTo pos (starEach es env)).any (·.1) = false
  | [], _ => rfl
  | e :: es, h => by
    rw [star_ok (h e List.mem_cons_self)]
    show (false || (backTo pos (starEach es env)).any (·.1)) = false
    rw [plain_any fun x hx => h x (List.mem_cons_of_mem _ hx)]
    rfl
theorem plain_all {pos : Pos} {env : Env} : ∀ {es : List Expr}, Plain es → (backTo pos (starEach es env)).all (fun x => !x.1) = true
  | [], _ => rfl
  | e :: es, h => by
    rw [star_ok (h e List.mem_cons_self)]
    show (true && (backTo pos (starEach es env)).all (fun x => !x.1)) = true
    rw [plain_all fun x hx => h x (List.mem_cons_of_mem _ hx)]
    rfl
theorem cEs_plain : ∀ {n : Nat} {es : List Expr} {i : Es}, cEs n cc es = some i → Plain es
  | 0, _, _, h => by simp [cEs] at h
  | n + 1, [], _, _ => fun _ hx => nomatch hx
  | n + 1, e :: es, i, h => by
    cases hn : notStar e with
    | false => simp [cEs, hn] at h
    | true =>
      cases h1 : cE n cc e with
      | none => simp [cEs, hn, h1] at h
      | some e' =>
        cases h2 : cEs n cc es with
        | none => simp [cEs, hn, h1, h2] at h
        | some es' =>
          intro x hx
          rcases List.mem_cons.mp hx with rfl | hx
          · exact hn
          · exact cEs_plain h2 x hx
theorem eps_st {H1 : Hp} {M1 : Mp} {Q : List D → Mp → Prop} {u : List Value} {s' : Shared} (st : Stp H M H1 M1) (h : EPs3 (ct X ca) X M0 pins σ3 σ H1 M1 Q u s') : EPs3 (ct X ca) X M0 pins σ3 σ H M Q u s' := by
  obtain ⟨d, M', v, H', I, r, rd, st', q⟩ := h
  exact ⟨d, M', v, H', I, r, rd, st.trans st', q⟩
/-- f(..), a def of the module -/
theorem s_call {f : Str} {p pos : Pos} {i : Nat} {e : Expr} {es : List Expr} {ies : Es} (ok : Ok3 ca X P cc) (hf : cc.glob f = some (.fn i)) (hp : Plain (e :: es)) (ha : SndEs ca X M0 P X3 (e :: es) ies) : SndE ca X M0 P X3 (.Call (.Name f p) (e :: es) [] pos) (.call i ies) := by
  intro pins s σ H σ3 M Q I hw
  obtain ⟨hg, hl, hd, _⟩ := glob_ok ok hf
  obtain ⟨k, a, fd, ps, hm, hk, hb, hr, F⟩ := ok.g.fn f i hl
  refine wpAny_Call_Name_kw (ld_glob I.inv hg hm ?_ hd)
  refine PySem.W.callWith_K (h₀ := X.base) I.inv.ok.mod.kin hk (thn (ha pos pins s σ H σ3 M _ I hw) fun us s1 ⟨ds, M1, vs, H1, I1, r, rd, st, q⟩ => ⟨I1.inv.kIn, ?_⟩) (star_ok (hp e List.mem_cons_self)) (plain_any fun x hx => hp x (List.mem_cons_of_mem _ hx))
  exact thn (run_fng F hr ok.hg hb I1 r rd q) fun _ _ e => ep_st st e
theorem s_call0 {f : Str} {p pos : Pos} {i : Nat} (ok : Ok3 ca X P cc) (hf : cc.glob f = some (.fn i)) : SndE ca X M0 P X3 (.Call (.Name f p) [] [] pos) (.call i .nil) := by
  intro pins s σ H σ3 M Q I hw
  obtain ⟨hg, hl, hd, _⟩ := glob_ok ok hf
  obtain ⟨k, a, fd, ps, hm, hk, hb, hr, F⟩ := ok.g.fn f i hl
  refine wpAny_Call_Name_kw (ld_glob I.inv hg hm ?_ hd)
  exact PySem.W.callWith_K0 I.inv.kIn hk (run_fng (us := []) (vs := []) (ds := []) F hr ok.hg hb I .nil (show RDs (ct X ca) H [] [] from rfl) hw)
/-- a built-in called by its name -/
theorem s_bltF {f : Str} {id : String} {p pos : Pos} {b : Blt} {e : Expr} {es : List Expr} {ies : Es} (ok : Ok3 ca X P cc) (hf : cc.glob f = some .blt) (hv : bootBuiltins f = some (.builtin id)) (hF : Fn3 ca X (.builtin id) (wpBlt b)) (hp : Plain (e :: es)) (ha : SndEs ca X M0 P X3 (e :: es) ies) :
    SndE ca X M0 P X3 (.Call (.Name f p) (e :: es) [] pos) (.blt b ies) := by
  intro pins s σ H σ3 M Q I hw
  obtain ⟨hg, hl, hd, hn⟩ := glob_ok ok hf
  refine wpAny_Call_Name_kw (ld_blt I.inv hg (ok.g.blt f hl) hv ?_ hn hd)
  refine callWith_builtin1 (thn (ha pos pins s σ H σ3 M _ I hw) fun us s1 ⟨ds, M1, vs, H1, I1, r, rd, st, q⟩ => ?_) (star_ok (hp e List.mem_cons_self)) (plain_any fun x hx => hp x (List.mem_cons_of_mem _ hx))
  exact thn (hF pins s1 σ H1 M0 M1 σ3 ds vs us Q I1 r rd q) fun _ _ e => ep_st st e
theorem s_bltT {f : Str} {T : String} {p pos : Pos} {b : Blt} {e : Expr} {es : List Expr} {ies : Es} (ok : Ok3 ca X P cc) (hf : cc.glob f = some .blt) (hv : bootBuiltins f = some (.type T)) (hF : Fn3 ca X (.type T) (wpBlt b)) (hp : Plain (e :: es)) (ha : SndEs ca X M0 P X3 (e :: es) ies) :
    SndE ca X M0 P X3 (.Call (.Name f p) (e :: es) [] pos) (.blt b ies) := by
  intro pins s σ H σ3 M Q I hw
  obtain ⟨hg, hl, hd, hn⟩ := glob_ok ok hf
  refine wpAny_Call_Name_kw (ld_blt I.inv hg (ok.g.blt f hl) hv ?_ hn hd)
  refine callWith_type1 (thn (ha pos pins s σ H σ3 M _ I hw) fun us s1 ⟨ds, M1, vs, H1, I1, r, rd, st, q⟩ => ?_) (star_ok (hp e List.mem_cons_self)) (plain_any fun x hx => hp x (List.mem_cons_of_mem _ hx))
  exact thn (hF pins s1 σ H1 M0 M1 σ3 ds vs us Q I1 r rd q) fun _ _ e => ep_st st e
theorem ite_str {x y : Str} {α : Type} {a b : Option α} {c : α} (h : (if x == y then a else b) = some c) : (x = y ∧ a = some c) ∨ b = some c := by
  cases e : x == y with
  | true => rw [e] at h; exact .inl ⟨by simpa using e, h⟩
  | false => rw [e] at h; exact .inr h
theorem s_blt {f : Str} {p pos : Pos} {b : Blt} {e : Expr} {es : List Expr} {ies : Es} (ok : Ok3 ca X P cc) (hf : cc.glob f = some .blt) (hb : cBlt f = some b) (hp : Plain (e :: es)) (ha : SndEs ca X M0 P X3 (e :: es) ies) :
    SndE ca X M0 P X3 (.Call (.Name f p) (e :: es) [] pos) (.blt b ies) := by
  unfold cBlt at hb
  rcases ite_str hb with ⟨rfl, hb⟩ | hb
  · cases hb; exact s_bltF ok hf boot_len f_len hp ha
  rcases ite_str hb with ⟨rfl, hb⟩ | hb
  · cases hb; exact s_bltT ok hf (by decide +kernel) f_int hp ha
  rcases ite_str hb with ⟨rfl, hb⟩ | hb
  · cases hb; exact s_bltF ok hf boot_repr (f_repr ok.hg ok.hu ok.sy) hp ha
  rcases ite_str hb with ⟨rfl, hb⟩ | hb
  · cases hb; exact s_bltF ok hf boot_max (f_max ok.hc) hp ha
  rcases ite_str hb with ⟨rfl, hb⟩ | hb
  · cases hb; exact s_bltF ok hf (by decide +kernel) (f_min ok.hc) hp ha
  rcases ite_str hb with ⟨rfl, hb⟩ | hb
  · cases hb; exact s_bltF ok hf (by decide +kernel) f_abs hp ha
  rcases ite_str hb with ⟨rfl, hb⟩ | hb
  · cases hb; exact s_bltT ok hf (by decide +kernel) f_str hp ha
  rcases ite_str hb with ⟨rfl, hb⟩ | hb
  · cases hb; exact s_bltT ok hf (by decide +kernel) (f_list ok.hc) hp ha
  rcases ite_str hb with ⟨rfl, hb⟩ | hb
  · cases hb; exact s_bltT ok hf (by decide +kernel) f_tuple hp ha
  rcases ite_str hb with ⟨rfl, hb⟩ | hb
  · cases hb; exact s_bltF ok hf (by decide +kernel) (f_sum ok.hc) hp ha
  rcases ite_str hb with ⟨rfl, hb⟩ | hb
  · cases hb; exact s_bltF ok hf (by decide +kernel) (f_sorted ok.hc ok.sy ok.hu) hp ha
  · cases hb
/-! ### methods of built-in types -/
theorem noSuper_ok {o : Expr} {m : Str} {env : Env} (h : noSuper o = true) : attributeBase o m env (eval o env) = eval o env := by
  unfold attributeBase
  split
  · cases h
  · rfl
structure MthOk (ca : Nat → Addr) (X : Cx) (T id : String) (m : Str) (rk : RK) (mm : Mth) : Prop where
  pa : PlainAttrs T
  slot : Slot T m id
  ty : typeOf (.builtin id) = pure (.type "method_descriptor")
  rule : Mt3 ca X id (fun x ds M Q => rcv x M = some rk ∧ wpMth mm x ds M Q)
  is : ∀ (pins : List (Addr × Obj)) (s : Shared) (σ : L2.St) (H : Hp) (M0 M : Mp) (σ3 : Lo) (x : D) (a : V) (v : Value), I3 (ct X ca) X M0 pins σ3 M σ H s → RelV a v → RD (ct X ca) H x a → rcv x M = some rk → s.TypeIs v T ∧ ∀ b, v = .ref b → ∃ ob, s.heap.get? b = some ob ∧ ob.dict = none
theorem rcv_lst {x : D} {M : Mp} (h : rcv x M = some .lst) : ∃ a ds, x = .ref a ∧ M a = some (.lst ds) := by
  cases x with
  | ref a =>
    cases e : M a with
    | none => simp only [rcv, e] at h; cases h
    | some o => cases o with
      | lst ds => exact ⟨a, ds, rfl, e⟩
      | _ => simp only [rcv, e] at h; cases h
  | _ => cases h
theorem is_lst : ∀ (pins : List (Addr × Obj)) (s : Shared) (σ : L2.St) (H : Hp) (M0 M : Mp) (σ3 : Lo) (x : D) (a : V) (v : Value), I3 (ct X ca) X M0 pins σ3 M σ H s → RelV a v → RD (ct X ca) H x a → rcv x M = some .lst → s.TypeIs v "list" ∧ ∀ b, v = .ref b → ∃ ob, s.heap.get? b = some ob ∧ ob.dict = none := by
  intro pins s σ H M0 M σ3 x a v I rv rd h
  obtain ⟨p, ds, rfl, hm⟩ := rcv_lst h
  have e : a = .ref p := rd
  subst e
  obtain ⟨xs, hx, _⟩ := I.hp.lst hm
  exact tyV_is (T := "list") (x := .ref p) I.inv rv (.inl ⟨rfl, xs, SqL.of hx⟩)
theorem is_str : ∀ (pins : List (Addr × Obj)) (s : Shared) (σ : L2.St) (H : Hp) (M0 M : Mp) (σ3 : Lo) (x : D) (a : V) (v : Value), I3 (ct X ca) X M0 pins σ3 M σ H s → RelV a v → RD (ct X ca) H x a → rcv x M = some .str → s.TypeIs v "str" ∧ ∀ b, v = .ref b → ∃ ob, s.heap.get? b = some ob ∧ ob.dict = none := by
  intro pins s σ H M0 M σ3 x a v I rv rd h
  cases x with
  | str z =>
    have e : a = .str z := rd
    subst e
    obtain ⟨t, rfl⟩ := rv
    exact ⟨typeIs_str _ _ _, fun b e => nomatch e⟩
  | ref p =>
    cases e : M p with
    | none => simp only [rcv, e] at h; cases h
    | some o => cases o <;> (simp only [rcv, e] at h; cases h)
  | _ => cases h
theorem is_dct : ∀ (pins : List (Addr × Obj)) (s : Shared) (σ : L2.St) (H : Hp) (M0 M : Mp) (σ3 : Lo) (x : D) (a : V) (v : Value), I3 (ct X ca) X M0 pins σ3 M σ H s → RelV a v → RD (ct X ca) H x a → rcv x M = some .dct → s.TypeIs v "dict" ∧ ∀ b, v = .ref b → ∃ ob, s.heap.get? b = some ob ∧ ob.dict = none := by
  intro pins s σ H M0 M σ3 x a v I rv rd h
  obtain ⟨p, o, rfl, g, ho⟩ := rcv_dct h
  have e : a = .ref p := rd
  subst e
  cases rv
  have two : ∀ {kvs : List (D × D)}, DT M p kvs → s.TypeIs (.ref p) "dict" ∧ ∀ b, Value.ref p = .ref b → ∃ ob, s.heap.get? b = some ob ∧ ob.dict = none := fun {kvs} h => by
    obtain ⟨_, _, _, us, _, _, _, _, dd⟩ := I.dtAt h
    exact dt_type dd
  have one : ∀ {kvs : List (D × D)}, M p = some (.dct kvs) ∨ M p = some (.lck kvs) → s.TypeIs (.ref p) "dict" ∧ ∀ b, Value.ref p = .ref b → ∃ ob, s.heap.get? b = some ob ∧ ob.dict = none := fun {kvs} h => by
    obtain ⟨ks, hr, _⟩ := I.dkRd h
    obtain ⟨_, _, vs, _, dd⟩ := dk_rd I.inv.hok hr
    refine ⟨dd.typeIs, fun b q => ?_⟩
    cases q
    obtain ⟨ob, _, _, h1, h2, _⟩ := dd
    exact ⟨ob, h1, h2.2.1⟩
  rcases ho with ⟨kvs, rfl⟩ | ⟨kvs, rfl⟩ | ⟨kvs, rfl⟩ | ⟨kvs, rfl⟩
  · exact one (.inl g)
  · exact one (.inr g)
  · exact two (.inl g)
  · exact two (.inr g)
theorem mok_pop : MthOk ca X "list" "list.pop" "pop" .lst .pop := ⟨PySem.F.plainAttrs_list, PySem.F.slot_list_pop, PySem.F.type_list_pop, m_pop, is_lst⟩
theorem mok_dget (hu : X.A.units + 80 < cLine) : MthOk ca X "dict" "dict.get" "get" .dct .get := ⟨PySem.F.plainAttrs_dict, PySem.F.slot_dict_get, PySem.F.type_dict_get, m_dget hu, is_dct⟩
theorem mok_dpop (hu : X.A.units + 80 < cLine) : MthOk ca X "dict" "dict.pop" "pop" .dct .pop := ⟨PySem.F.plainAttrs_dict, PySem.F.slot_dict_pop, PySem.F.type_dict_pop, m_dpop hu, is_dct⟩
theorem mok_append : MthOk ca X "list" "list.append" "append" .lst .append := ⟨PySem.F.plainAttrs_list, PySem.F.slot_list_append, PySem.F.type_list_append, m_append, is_lst⟩
theorem mok_extend : MthOk ca X "list" "list.extend" "extend" .lst .extend := ⟨PySem.F.plainAttrs_list, PySem.F.slot_list_extend, PySem.F.type_list_extend, m_extend, is_lst⟩
theorem mok_strIndex : MthOk ca X "str" "str.index" "index" .str .index := ⟨PySem.F.plainAttrs_str, PySem.F.slot_str_index, PySem.F.type_str_index, m_strIndex, is_str⟩
theorem mok_ok (hu : X.A.units + 80 < cLine) {m : Str} {mm : Mth} {r : Option RK} (hm : cMth m = some mm) (h : mok r mm = true) : ∃ rk T id, r = some rk ∧ MthOk ca X T id m rk mm := by
  unfold cMth at hm
  rcases ite_str hm with ⟨rfl, hm⟩ | hm
  · cases hm
    match r, h with
    | some .lst, _ => exact ⟨.lst, _, _, rfl, mok_append⟩
  rcases ite_str hm with ⟨rfl, hm⟩ | hm
  · cases hm
    match r, h with
    | some .lst, _ => exact ⟨.lst, _, _, rfl, mok_extend⟩
  rcases ite_str hm with ⟨rfl, hm⟩ | hm
  · cases hm
    match r, h with
    | some .lst, _ => exact ⟨.lst, _, _, rfl, mok_pop⟩
    | some .dct, _ => exact ⟨.dct, _, _, rfl, mok_dpop hu⟩
  rcases ite_str hm with ⟨rfl, hm⟩ | hm
  · cases hm
    match r, h with
    | some .str, _ => exact ⟨.str, _, _, rfl, mok_strIndex⟩
  rcases ite_str hm with ⟨rfl, hm⟩ | hm
  · cases hm
    match r, h with
    | some .dct, _ => exact ⟨.dct, _, _, rfl, mok_dget hu⟩
  rcases ite_str hm with ⟨rfl, hm⟩ | hm
  · cases hm
    cases r with
    | none => cases h
    | some r => cases r <;> cases h
  rcases ite_str hm with ⟨rfl, hm⟩ | hm
  · cases hm
    cases r with
    | none => cases h
    | some r => cases r <;> cases h
  cases hm
theorem s_mth (hu : X.A.units + 80 < cLine) {m : Str} {mm : Mth} {o : Expr} {ap pos : Pos} {es : List Expr} {io : E} {ies : Es} (hm : cMth m = some mm) (hn : noSuper o = true) (hl : (ap.endLine == pos.line) = true) (hz : es.length < 25) (hp : Plain es) (he : es = [] → ies = .nil) (ho : SndE ca X M0 P X3 o io) (ha : SndEs ca X M0 P X3 es ies) :
    SndE ca X M0 P X3 (.Call (.Attribute o m ap) es [] pos) (.mth io mm ies) := by
  intro pins s σ H σ3 M Q I hw
  have few : ((backTo pos (starEach es X.env)).all (fun x => !x.1) && (backToKw pos (keywordEach [] X.env)).all (fun x => x.1.isSome) && decide (es.length + ([] : List Keyword).length + (if ([] : List Keyword).isEmpty then 0 else 1) < 30)) = true := by
    rw [plain_all hp]
    show (true && true && decide (es.length + 0 + 0 < 30)) = true
    simp only [Bool.and_true, Bool.true_and, decide_eq_true_eq]
    omega
  refine wpAny_Call_method_late (noSuper_ok hn) few hl rfl (thn (ho pins s σ H σ3 M _ I hw) fun v s1 ⟨x, M1, av, H1, I1, rv, rd, st, hk, hw1⟩ => ?_)
  obtain ⟨rk, T, id, hr, W⟩ := mok_ok (ca := ca) (X := X) hu hm hk
  obtain ⟨h1, h2⟩ := W.is pins s1 σ H1 M0 M1 σ3 x av v I1 rv rd hr
  refine ⟨T, id, W.pa, W.slot, W.ty, h1, h2, ?_⟩
  have fin : ∀ (us : List Value) (s2 : Shared), EPs3 (ct X ca) X M0 pins σ3 σ H1 M1 (fun ds M2 => rcv x M2 = rcv x M1 ∧ wpMth mm x ds M2 Q) us s2 → wpAny (model X.prog X.w) X.A (call (.builtin id) (v :: us)) (EP3 (ct X ca) X M0 pins σ3 σ H M Q) X.xe s2 := fun us s2 ⟨ds, M2, vs, H2, I2, r2, rd2, st2, hk2, q⟩ =>
    thn (W.rule pins s2 σ H2 M0 M2 σ3 x av v ds vs us Q I2 rv (rd.keep (st2.tupK I1.hp)) r2 rd2 ⟨hk2.trans hr, q⟩) fun _ _ e => ep_st (st.trans st2) e
  cases es with
  | nil =>
    rw [he rfl] at hw1
    exact Calls.callWith_builtin rfl (PySem.evalArgs_none (fin [] s1 ⟨[], M1, [], H1, I1, .nil, rfl, Stp.refl, hw1⟩))
  | cons e es =>
    have hA := ha pos pins s1 σ H1 σ3 M1 _ I1 hw1
    rw [star_ok (hp e List.mem_cons_self)] at hA ⊢
    refine Calls.callWith_builtin (by show (false || (backTo pos (starEach es X.env)).any (·.1)) = false; rw [plain_any fun x hx => hp x (List.mem_cons_of_mem _ hx)]; rfl) (Calls.evalArgs_plain ?_)
    exact thn hA fun us s2 h => fin us s2 h
/-! ### classes -/
theorem lookupP {C : Ct} {fs : List (Str × D)} {gs : List (Str × V)} (p : Paired (fun (p : Str × D) (q : Str × V) => p.1 = q.1 ∧ RD C H p.2 q.2) fs gs) (f : Str) : (∀ d, fs.lookup f = some d → ∃ v, gs.lookup f = some v ∧ RD C H d v) ∧ (fs.lookup f = none → gs.lookup f = none) := by
  induction p with
  | nil => exact ⟨(fun d e => nomatch e), fun _ => rfl⟩
  | @cons a b l1 l2 r t ih =>
    obtain ⟨a1, a2⟩ := a
    obtain ⟨b1, b2⟩ := b
    obtain ⟨r1, r2⟩ := r
    have r1' : a1 = b1 := r1
    subst r1'
    simp only [List.lookup_cons]
    cases e : f == a1 with
    | true => exact ⟨fun d h => by cases h; exact ⟨b2, rfl, r2⟩, fun h => nomatch h⟩
    | false => exact ih
theorem putP {C : Ct} {f : Str} {d : D} {v : V} (rd : RD C H d v) : ∀ {fs : List (Str × D)} {gs : List (Str × V)}, Paired (fun (p : Str × D) (q : Str × V) => p.1 = q.1 ∧ RD C H p.2 q.2) fs gs → Paired (fun (p : Str × D) (q : Str × V) => p.1 = q.1 ∧ RD C H p.2 q.2) (putFd f d fs) (putF f v gs)
  | _, _, .nil => .cons ⟨rfl, rd⟩ .nil
  | _, _, .cons (a := (a1, a2)) (b := (b1, b2)) r t => by
    have r1 : a1 = b1 := r.1
    subst r1
    unfold putFd putF
    by_cases h : a1 = f
    · rw [if_pos h, if_pos h]
      exact .cons ⟨rfl, rd⟩ t
    · rw [if_neg h, if_neg h]
      exact .cons r (putP rd t)
theorem o_fld (ok : Ok3 ca X P cc) {x : D} {a : V} {v : Value} {f : Str} {b : Bool} {Q : Post} (I : I3 (ct X ca) X M0 pins σ3 M σ H s) (ra : RelV a v) (hx : RD (ct X ca) H x a) (h : wpFld P x f M Q) : wpAny (model X.prog X.w) X.A (getAttr v f b) (EP3 (ct X ca) X M0 pins σ3 σ H M Q) X.xe s := by
  cases x with
  | ref p =>
    have e : a = .ref p := hx; subst e
    cases ra
    cases g : M p with
    | none => simp only [wpFld, g] at h
    | some o =>
      cases o with
      | ins c fs =>
        simp only [wpFld, g] at h
        obtain ⟨hf, d, hd, q⟩ := h
        obtain ⟨dx, gs, hH, pd⟩ := I.hp.ins g
        obtain ⟨w, hw, rw'⟩ := (lookupP pd f).1 d hd
        obtain ⟨c1, c2⟩ := ok.g.fl c f hf
        exact getattr_ok I.inv hH c1 c2 hw fun u s' J ru => ep_now I J ru rw' q
      | _ => simp only [wpFld, g] at h
  | exn c ds => exact (show False from hx).elim
  | _ => exact h.elim
theorem s_fld {o : Expr} {f : Str} {pos : Pos} {io : E} (ok : Ok3 ca X P cc) (hn : noSuper o = true) (ho : SndE ca X M0 P X3 o io) : SndE ca X M0 P X3 (.Attribute o f pos) (.fld io f) := by
  intro pins s σ H σ3 M Q I hw
  refine attr_of (noSuper_ok hn) (thn (ho pins s σ H σ3 M _ I hw) fun v s1 ⟨x, M1, av, H1, I1, rv, rd, st, q⟩ => ?_)
  exact thn (o_fld ok I1 rv rd q) fun _ _ e => ep_st st e
theorem o_setFld (ok : Ok3 ca X P cc) {x y : D} {a b : V} {v u : Value} {f : Str} {k : Mp → Prop} (I : I3 (ct X ca) X M0 pins σ3 M σ H s) (ra : RelV a v) (rb : RelV b u) (hx : RD (ct X ca) H x a) (hy : RD (ct X ca) H y b) (h : wpSetFld P x f y M k) :
    wpAny (model X.prog X.w) X.A (setAttr v f u) (fun _ s' => ∃ M' H', I3 (ct X ca) X M0 pins σ3 M' σ H' s' ∧ TupK H H' ∧ k M') X.xe s := by
  cases x with
  | ref p =>
    have e : a = .ref p := hx; subst e
    cases ra
    cases g : M p with
    | none => simp only [wpSetFld, g] at h
    | some o =>
      cases o with
      | ins c fs =>
        simp only [wpSetFld, g] at h
        obtain ⟨⟨hf, hl⟩, q⟩ := h
        obtain ⟨dx, gs, hH, pd⟩ := I.hp.ins g
        obtain ⟨c1, c2⟩ := ok.g.fl c f hf
        have hl2 : gs.length < 1000 := by have := Paired.length pd; omega
        refine setattr_ok I.inv hH c1 c2 hl2 rb fun s' J => ⟨_, _, I.to J (I.hp.write (m' := .ins c (putFd f y fs)) g ⟨rfl, ?_⟩) (write_stp I.hp g), I.hp.tupKw g, q⟩
        have kk : TupK H (upd H p (.ins (ca c) dx (putF f b gs))) := I.hp.tupKw g
        exact Paired.mapP (putP hy pd) fun _ _ z => ⟨z.1, z.2.keep kk⟩
      | _ => simp only [wpSetFld, g] at h
  | _ => exact h.elim
theorem make_guards {A : Around} {C : Addr} {us : List Value} {kw : List (Str × Value)} : (A.under (.builtin "type.__call__" ⟨.ref C :: us, kw⟩)).guards = A.guards := by
  first | rfl | simp [Around.under, Code.weight, Code.isCreation, Code.isGuard, Code.isCaller, Code.frames, Code.isFrame, guardIds]
theorem run_mk {k : Nat} {f : Addr} {c : Nat} {fd : FuncData} {ps : List Str} {sp : Spec} {us : List Value} {vs : List V} {ds : List D} {Q : Post} (K : Mk X.K (ca c) f) (F : FnG (ct X ca) X.mg X.base k f fd ps sp) (hr : Room (k + 1) X.A) (hg : X.A.guards = some []) (hb : Binds X.K fd ps [])
    (I : I3 (ct X ca) X M0 pins σ3 M σ H s) (r : Vals vs us) (rd : RDs (ct X ca) H ds vs) (h : ∀ p, M p = none → sp (.ref p :: ds) (mset M p (.ins c [])) (fun d M2 => d = .non ∧ Q (.ref p) M2) X3) :
    wpAny (model X.prog X.w) X.A (call (.ref (ca c)) us) (EP3 (ct X ca) X M0 pins σ3 σ H M Q) X.xe s := by
  have n1 : H (s.heap.objs.size) = none := I.inv.hok.fresh (Nat.le_refl _)
  have n2 : H (s.heap.objs.size + 1) = none := I.inv.hok.fresh (Nat.le_succ _)
  have ne : s.heap.objs.size + 1 ≠ s.heap.objs.size := Nat.succ_ne_self _
  have hq := h (s.heap.objs.size + 1) (I.hp.free n2)
  have J := Inv.made (C := ca c) I.inv
  have n3 : (upd H s.heap.objs.size (.own (s.heap.objs.size + 1))) (s.heap.objs.size + 1) = none := by rw [upd_ne ne]; exact n2
  have rm : RM (ct X ca) (upd (upd H s.heap.objs.size (.own (s.heap.objs.size + 1))) (s.heap.objs.size + 1) (.ins (ca c) s.heap.objs.size [])) (mset M (s.heap.objs.size + 1) (.ins c [])) :=
    RM.new (I.hp.new0 n1) n3 ⟨rfl, .nil⟩
  have st : Stp H M (upd (upd H s.heap.objs.size (.own (s.heap.objs.size + 1))) (s.heap.objs.size + 1) (.ins (ca c) s.heap.objs.size [])) (mset M (s.heap.objs.size + 1) (.ins c [])) := (upd_stp n1).trans (mset_stp n3)
  have I2 := I.to J rm st
  have r2 : Vals (V.ref (s.heap.objs.size + 1) :: vs) (Value.ref (s.heap.objs.size + 1) :: us) := .cons rfl r
  have rd2 : RDs (ct X ca) (upd (upd H s.heap.objs.size (.own (s.heap.objs.size + 1))) (s.heap.objs.size + 1) (.ins (ca c) s.heap.objs.size [])) (.ref (s.heap.objs.size + 1) :: ds) (V.ref (s.heap.objs.size + 1) :: vs) := ⟨_, _, rfl, rfl, rd.keep (st.tupK I.hp)⟩
  have hl : (Value.ref (s.heap.objs.size + 1) :: us).length = ps.length := by rw [← r2.length, ← rd2.length]; exact F.len _ _ _ _ hq
  have b := hb _ (Value.ref (s.heap.objs.size + 1) :: us) J.kIn (by rw [List.append_nil]; exact hl)
  rw [List.append_nil] at b
  refine wpAny_call (make_map (f := f) I.inv.kIn K.makes K.init (beq_iff_eq.mp K.fn) (codeAny_mono (F.run _ X.stack _ _ ⟨Value.ref (s.heap.objs.size + 1) :: us, []⟩ (Value.ref (s.heap.objs.size + 1) :: us) _ _ _ _ X3 (hr.make (ca c) us []) (by rw [make_guards]; exact hg)
    (J.env0.make (ca c) us []) b r2 rd2 rm hq) fun res s' hres => ?_))
  match res, hres with
  | .ok (.ret u), hres =>
    obtain ⟨v, H', J2, rv, d, M', rm', st', rdv, ed, q⟩ := J.after hres
    subst ed
    have ev : v = .non := rdv
    subst ev
    exact ⟨rv, .ref (s.heap.objs.size + 1), M', .ref (s.heap.objs.size + 1), H', I2.to J2 rm' st', rfl, rfl, st.trans st', q⟩
theorem s_make {x : Str} {p pos : Pos} {c i : Nat} {e : Expr} {es : List Expr} {ies : Es} (ok : Ok3 ca X P cc) (hf : cc.glob x = some (.cls c i)) (hp : Plain (e :: es)) (ha : SndEs ca X M0 P X3 (e :: es) ies) : SndE ca X M0 P X3 (.Call (.Name x p) (e :: es) [] pos) (.make c i ies) := by
  intro pins s σ H σ3 M Q I hw
  obtain ⟨hg, hl, hd, _⟩ := glob_ok ok hf
  obtain ⟨k, f, fd, ps, hm, K, hb, hr, F⟩ := ok.g.cls x c i hl
  refine wpAny_Call_Name_kw (ld_glob I.inv hg hm ?_ hd)
  refine PySem.W.callWith_K (h₀ := X.base) I.inv.ok.mod.kin K.kp (thn (ha pos pins s σ H σ3 M _ I hw) fun us s1 ⟨ds, M1, vs, H1, I1, r, rd, st, q⟩ => ⟨I1.inv.kIn, ?_⟩) (star_ok (hp e List.mem_cons_self)) (plain_any fun x hx => hp x (List.mem_cons_of_mem _ hx))
  exact thn (run_mk K F hr ok.hg hb I1 r rd q) fun _ _ e => ep_st st e
theorem s_make0 {x : Str} {p pos : Pos} {c i : Nat} (ok : Ok3 ca X P cc) (hf : cc.glob x = some (.cls c i)) : SndE ca X M0 P X3 (.Call (.Name x p) [] [] pos) (.make c i .nil) := by
  intro pins s σ H σ3 M Q I hw
  obtain ⟨hg, hl, hd, _⟩ := glob_ok ok hf
  obtain ⟨k, f, fd, ps, hm, K, hb, hr, F⟩ := ok.g.cls x c i hl
  refine wpAny_Call_Name_kw (ld_glob I.inv hg hm ?_ hd)
  exact PySem.W.callWith_K0 I.inv.kIn K.kp (run_mk (us := []) (vs := []) (ds := []) K F hr ok.hg hb I .nil (show RDs (ct X ca) H [] [] from rfl) hw)
theorem s_umth {m : Str} {o : Expr} {ap pos : Pos} {es : List Expr} {io : E} {ies : Es} {c i : Nat} (ok : Ok3 ca X P cc) (hm : cc.gl.lookup (dotted m) = some (.mth c i)) (hn : noSuper o = true) (hl : (ap.endLine == pos.line) = true) (hz : es.length < 25) (hp : Plain es) (he : es = [] → ies = .nil)
    (ho : SndE ca X M0 P X3 o io) (ha : SndEs ca X M0 P X3 es ies) : SndE ca X M0 P X3 (.Call (.Attribute o m ap) es [] pos) (.umth io m c i ies) := by
  intro pins s σ H σ3 M Q I hw
  obtain ⟨k, f, fd, ps, c1, c2, hb, hr, F⟩ := ok.g.mth m c i hm
  have few : methodCallForm (es.length + ([] : List Keyword).length) (backTo pos (starEach es X.env)) (backToKw pos (keywordEach [] X.env)) = true := by
    unfold methodCallForm
    rw [plain_all hp]
    show (true && true && decide (es.length + 0 + 0 < 30)) = true
    simp only [Bool.and_true, Bool.true_and, decide_eq_true_eq]
    omega
  have ht : eval (.Call (.Attribute o m ap) es [] pos) X.env = (do
      let ov ← eval o X.env
      standAt ap.atName
      let (f, first) ← holding [ov] (getMethod ov m (plainOf o X.env))
      callWith pos f first (backTo pos (starEach es X.env)) (backToKw pos (keywordEach [] X.env))) := by
    rw [arm_eval_Call, noSuper_ok hn]
    congr 1
    funext ov
    congr 1
    funext _
    exact mcall_line few hl
  refine PySem.W.methodCall_KW (pl := plainOf o X.env) (thn (ho pins s σ H σ3 M _ I hw) fun v s1 ⟨x, M1, av, H1, I1, rv, rd, st, ⟨a, fs, ex, hM, hno⟩, hw1⟩ => ?_) ht
  subst ex
  have ea : av = .ref a := rd
  subst ea
  cases rv
  obtain ⟨dx, gs, hH, pd⟩ := I1.hp.ins hM
  refine getmeth_ok I1.inv hH c1 c2 ((lookupP pd m).2 hno) ?_
  cases es with
  | nil =>
    rw [he rfl] at hw1
    exact PySem.W.callWith_K0 (first := [.ref a]) I1.inv.kIn c2.kp (thn (run_fng (us := [.ref a]) (vs := [.ref a]) (ds := [.ref a]) F hr ok.hg hb I1 (.cons rfl .nil) ⟨_, _, rfl, rfl, rfl⟩ hw1) fun _ _ e => ep_st st e)
  | cons e es =>
    refine PySem.W.callWith_K (first := [.ref a]) (h₀ := X.base) I1.inv.ok.mod.kin c2.kp (thn (ha pos pins s1 σ H1 σ3 M1 _ I1 hw1) fun us s2 ⟨ds, M2, vs, H2, I2, r2, rd2, st2, q2⟩ => ⟨I2.inv.kIn, ?_⟩) (star_ok (hp e List.mem_cons_self)) (plain_any fun x hx => hp x (List.mem_cons_of_mem _ hx))
    exact thn (run_fng (us := .ref a :: us) (vs := .ref a :: vs) (ds := .ref a :: ds) F hr ok.hg hb I2 (.cons rfl r2) ⟨_, _, rfl, rfl, rd2⟩ q2) fun _ _ e => ep_st (st.trans st2) e
theorem s_dnew {pos : Pos} : SndE ca X M0 P X3 (.Dict [] [] pos) (.dct .nil) := by
  intro pins s σ H σ3 M Q I hw
  rcases hw with ⟨_, hw | hw⟩ | ⟨kvs, e, hn, _⟩
  · exact thn (pe_dnewK.run pins s σ H (QV (ct X ca) H M Q) I.inv fun p hp => qv_new I.hp hp (m := .dct []) ⟨[], rfl, .nil⟩ hw) fun _ _ e => ep_of I e
  · exact t_new I fun p s' hp hs J => ep_of I ⟨.ref p, _, J, rfl, qv_new I.hp hp (m := .dcT []) ⟨hs, Nat.zero_le _, [], rfl, List.nodup_nil, .nil⟩ hw⟩
  · cases e
    exact absurd rfl hn
theorem s_cidx {x : Str} {ap p pos : Pos} {ds : List D} {e : Expr} {ies : Es} (ok : Ok3 ca X P cc) (hf : cc.glob x = some (.con (.kt ds))) (hl : (ap.endLine == pos.line) = true) (hp : Plain [e]) (ha : SndEs ca X M0 P X3 [e] ies) :
    SndE ca X M0 P X3 (.Call (.Attribute (.Name x p) "index" ap) [e] [] pos) (.cidx ds ies) := by
  intro pins s σ H σ3 M Q I hw
  obtain ⟨hg, hlk, hd, _⟩ := glob_ok ok hf
  obtain ⟨u, v, hm, rv, rd, tp⟩ := ok.g.con x _ hlk
  obtain ⟨a, o, rfl, hk, hc, hdn⟩ := tp ds rfl
  cases rv
  have few : ((backTo pos (starEach [e] X.env)).all (fun x => !x.1) && (backToKw pos (keywordEach [] X.env)).all (fun x => x.1.isSome) && decide (([e] : List Expr).length + ([] : List Keyword).length + (if ([] : List Keyword).isEmpty then 0 else 1) < 30)) = true := by
    rw [plain_all hp]
    rfl
  refine wpAny_Call_method_late (noSuper_ok rfl) few hl rfl (ld_glob I.inv hg hm ?_ hd)
  obtain ⟨h1, h2⟩ := tyV_is (T := "tuple") (x := .ref a) I.inv rfl (.inr (.inl ⟨rfl, o, hk, hc, hdn⟩))
  refine ⟨"tuple", "tuple.index", PySem.F.plainAttrs_tuple, PySem.F.slot_tuple_index, PySem.F.type_tuple_index, h1, h2, ?_⟩
  have hA := ha pos pins s σ H σ3 M _ I hw
  rw [star_ok (hp e List.mem_cons_self)] at hA ⊢
  refine Calls.callWith_builtin rfl (Calls.evalArgs_plain ?_)
  refine thn hA fun us s1 ⟨ds2, M1, vs, H1, I1, r, rd1, st, ys, z, j, e1, e2, h3, h4, q⟩ => ?_
  subst e1 e2
  exact thn (m_tupIndex pins s1 σ H1 M0 M1 σ3 (.kt (ys.map .str)) (.ref a) (.ref a) [.str z] vs us Q I1 rfl (rd H1) r rd1 ⟨rfl, ys, z, j, rfl, rfl, h3, h4, q⟩) fun _ _ e => ep_st st e
end
end L3
end
section
set_option autoImplicit false
set_option linter.all false
set_option maxRecDepth 100000
/-! L3: slices -/
namespace L3
open PySem L2 PyProof.Rows

def optI : D → Option Int
  | .int i => some i
  | _ => none
theorem sLo_eq {n : Nat} {d : D} (h : d.ion = true) : HT.sIx n 0 (optI d) = sLo n d := by
  cases d with
  | int i =>
    show (if i < 0 then (i + (n : Int)).toNat else min i.toNat n) = if 0 ≤ i then min i.toNat n else (i + n).toNat
    by_cases h0 : 0 ≤ i
    · rw [if_neg (by omega), if_pos h0]
    · rw [if_pos (by omega), if_neg h0]
  | non => rfl
  | _ => cases h
theorem sHi_eq {n : Nat} {d : D} (h : d.ion = true) : HT.sIx n n (optI d) = sHi n d := by
  cases d with
  | int i =>
    show (if i < 0 then (i + (n : Int)).toNat else min i.toNat n) = if 0 ≤ i then min i.toNat n else (i + n).toNat
    by_cases h0 : 0 ≤ i
    · rw [if_neg (by omega), if_pos h0]
    · rw [if_pos (by omega), if_neg h0]
  | non => rfl
  | _ => cases h
section
variable {ca : Nat → Addr} {X : Cx} {M0 M : Mp} {pins : List (Addr × Obj)} {σ3 : Lo} {σ : L2.St} {H : Hp} {s : Shared} {P : Pr} {cc : CC} {X3 : Xp}
theorem part_of {C : Ct} {d : D} {v : V} {u : Value} (h : d.ion = true) (rv : RelV v u) (rd : RD C H d v) : IsPart u (optI d) := by
  cases d with
  | int i =>
    have e : v = .int i := rd
    subst e
    obtain ⟨t, rfl⟩ := rv
    exact .int i t
  | non =>
    have e : v = .non := rd
    subst e
    cases (show u = Value.none from rv)
    exact .none
  | _ => cases h
theorem cutV_rd {C : Ct} {ds : List D} {xs : List V} {lo hi : D} (h1 : lo.ion = true) (h2 : hi.ion = true) (r : RDs C H ds xs) : RDs C H (cut ds lo hi) (cutV xs (optI lo) (optI hi)) := by
  unfold cut cutV
  rw [sLo_eq h1, sHi_eq h2, r.length]
  exact (r.drop _).take _
/-- a slice's part -/
def SndP (ca : Nat → Addr) (X : Cx) (M0 : Mp) (P : Pr) (X3 : Xp) (e : Option Expr) (i : E) : Prop :=
  ∀ (pins : List (Addr × Obj)) (s : Shared) (σ : L2.St) (H : Hp) (σ3 : Lo) (M : Mp) (Q : Post), I3 (ct X ca) X M0 pins σ3 M σ H s → wpE P X3 i σ3 M Q →
    wpAny (model X.prog X.w) X.A (evalPart e X.env) (EP3 (ct X ca) X M0 pins σ3 σ H M Q) X.xe s
theorem sp_none : SndP ca X M0 P X3 none .non := by
  intro pins s σ H σ3 M Q I hw
  rw [evalPart_none]
  exact wpAny_pure (ep_now (v := .non) (d := .non) I I.inv rfl rfl hw)
theorem sp_some {e : Expr} {ie : E} (h : SndE ca X M0 P X3 e ie) : SndP ca X M0 P X3 (some e) ie := by
  intro pins s σ H σ3 M Q I hw
  rw [evalPart_some]
  exact h pins s σ H σ3 M Q I hw
theorem s_sl {a : Expr} {lo hi : Option Expr} {p2 pos : Pos} {ia il ih : E} (ha : SndE ca X M0 P X3 a ia) (hl : SndP ca X M0 P X3 lo il) (hh : SndP ca X M0 P X3 hi ih) :
    SndE ca X M0 P X3 (.Subscript a (.Slice lo hi none p2) pos) (.sl ia il ih) := by
  intro pins s σ H σ3 M Q I hw
  refine Subscript_ (thn (ha pins s σ H σ3 M _ I hw) fun v s1 ⟨x, M1, av, H1, I1, rv, rd, st1, q1⟩ => ?_)
  refine wpAny_Slice (thn (hl pins s1 σ H1 σ3 M1 _ I1 q1) fun vl s2 ⟨l, M2, lv, H2, I2, rl, rdl, st2, q2⟩ => thn (hh pins s2 σ H2 σ3 M2 _ I2 q2) fun vu s3 ⟨h, M3, hv, H3, I3', rh, rdh, st3, q3⟩ => ?_)
  rw [evalPart_none]
  refine wpAny_pure ?_
  obtain ⟨⟨o1, o2⟩, q⟩ := q3
  have rd3 := (rd.keep (st2.tupK I1.hp)).keep (st3.tupK I2.hp)
  have pl : IsPart vl (optI l) := part_of o1 rl rdl
  have pu : IsPart vu (optI h) := part_of o2 rh rdh
  have I4 : Inv X pins σ H3 { s3 with heap := s3.heap.push { cls := .type "slice", data := .fields #[vl, vu, .none] } } := I3'.inv.kept (t' := s3.toks) fun b ob q => Heap.get?_push_of_some _ q
  have J4 := I3'.same I4
  have fin : ∀ {r : V → Option Int → Option Int → Hp → VK → Prop}, SlR X r → r av (optI l) (optI h) H3 (QV (ct X ca) H3 M3 Q) →
      wpAny (model X.prog X.w) X.A (subscriptTail a (.Slice lo hi none p2) v (.ref s3.heap.objs.size)) (EP3 (ct X ca) X M0 pins σ3 σ H M Q) X.xe { s3 with heap := s3.heap.push { cls := .type "slice", data := .fields #[vl, vu, .none] } } := fun hr q' => by
    obtain ⟨T, id, hT, ht, hg⟩ := hr pins _ σ H3 av v vl vu (optI l) (optI h) s3.heap.objs.size (QV (ct X ca) H3 M3 Q) I4 rv (Heap.IsSliceOf.new ..) pl pu q'
    exact thn (tail_any (ops := [.ref s3.heap.objs.size, v]) ht hT hg (by with_unfolding_all rfl)) fun _ _ e => ep_st ((st1.trans st2).trans st3) (ep_of J4 e)
  show wpAny (model X.prog X.w) X.A (subscriptTail a (.Slice lo hi none p2) v (.ref s3.heap.objs.size)) _ X.xe _
  cases x with
  | tup ds =>
    obtain ⟨p, xs, rfl, hq, rs⟩ := rd3
    refine fin sl_tupA ⟨p, xs, rfl, hq.sq, fun ⟨w1, w2⟩ => ?_, fun _ p2 hp => qv_tup J4.hp hp (cutV_rd o1 o2 rs) q⟩
    have e : cut ds l h = ds := by
      unfold cut
      rw [sLo_eq o1] at w1
      rw [sHi_eq o2] at w2
      rw [rs.length, w1, w2, Nat.sub_zero, List.drop_zero, ← rs.length, List.take_length]
    have q : Q (.tup (cut ds l h)) M3 := q
    rw [e] at q
    exact qv_now J4.hp (d := .tup ds) ⟨p, xs, rfl, hq, rs⟩ q
  | str z =>
    obtain ⟨hz, q⟩ := q
    have e : av = .str z := rd3
    refine fin sl_str ⟨z, e, hz, qv_str J4.hp ?_⟩
    have : cutS z (optI l) (optI h) = ⟨(cut z.cps.toList l h).toArray⟩ := by
      unfold cutS cut
      rw [sLo_eq o1, sHi_eq o2]
      rfl
    rw [this]
    exact q
  | ref p =>
    have e : av = .ref p := rd3
    subst e
    have q' : (match M3 p with | some (.lst ds) => wpNew M3 (.lst (cut ds l h)) Q | _ => False) := q
    cases e2 : M3 p with
    | none => rw [e2] at q'; exact q'.elim
    | some o =>
      rw [e2] at q'
      cases o with
      | lst ds =>
        obtain ⟨xs, hxs, rs⟩ := J4.hp.lst e2
        exact fin sl_list ⟨p, xs, rfl, SqL.of hxs, fun p2 hp => qv_new (m := .lst (cut ds l h)) J4.hp hp (cutV_rd o1 o2 rs) q'⟩
      | _ => exact q'.elim
  | _ => exact q.elim
end
end L3
end
section
set_option autoImplicit false
set_option linter.all false
set_option maxRecDepth 100000
/-! L3: isinstance -/
namespace L3
open PySem L2 PyProof.Rows

def Ty.nm : Ty → String
  | .int => "int"
  | .bool => "bool"
  | .str => "str"
  | .list => "list"
  | .tuple => "tuple"
theorem cTy_ok {x : Str} {t : Ty} (h : cTy x = some t) : bootBuiltins x = some (.type t.nm) ∧ x ≠ "__name__" ∧ (x == ("__debug__" : Str)) = false := by
  unfold cTy at h
  rcases ite_str h with ⟨rfl, h⟩ | h
  · cases h; exact ⟨by decide +kernel, by decide +kernel, by decide +kernel⟩
  rcases ite_str h with ⟨rfl, h⟩ | h
  · cases h; exact ⟨by decide +kernel, by decide +kernel, by decide +kernel⟩
  rcases ite_str h with ⟨rfl, h⟩ | h
  · cases h; exact ⟨by decide +kernel, by decide +kernel, by decide +kernel⟩
  rcases ite_str h with ⟨rfl, h⟩ | h
  · cases h; exact ⟨by decide +kernel, by decide +kernel, by decide +kernel⟩
  rcases ite_str h with ⟨rfl, h⟩ | h
  · cases h; exact ⟨by decide +kernel, by decide +kernel, by decide +kernel⟩
  · cases h
theorem kit_ok {n : String} {t : Ty} (h : n = "NoneType" ∨ n = "bool" ∨ n = "int" ∨ n = "str" ∨ n = "tuple" ∨ n = "list" ∨ n = "dict") : kitB n t.nm = some (isTyN n t) := by
  rcases h with rfl | rfl | rfl | rfl | rfl | rfl | rfl <;> cases t <;> decide +kernel
section
variable {ca : Nat → Addr} {X : Cx} {M0 M : Mp} {P : Pr} {cc : CC} {X3 : Xp} {σ3 : Lo} {σ : L2.St} {H : Hp} {s : Shared} {pins : List (Addr × Obj)}
theorem tyx_of {x : D} {v : V} {n : String} (I : I3 (ct X ca) X M0 pins σ3 M σ H s) (rd : RD (ct X ca) H x v) (h : tyName x M = some n) : TyX X.K H v (.type n) ∧ (n = "NoneType" ∨ n = "bool" ∨ n = "int" ∨ n = "str" ∨ n = "tuple" ∨ n = "list" ∨ n = "dict") := by
  cases x with
  | non => cases h; rw [show v = .non from rd]; exact ⟨.base .non, by simp⟩
  | bl b => cases h; rw [show v = .bl b from rd]; exact ⟨.base (.bl b), by simp⟩
  | int i => cases h; rw [show v = .int i from rd]; exact ⟨.base (.int i), by simp⟩
  | str i => cases h; rw [show v = .str i from rd]; exact ⟨.base (.str i), by simp⟩
  | tup ds =>
    cases h
    obtain ⟨a, xs, rfl, hq, _⟩ := rd
    rcases hq with hq | (hq | ⟨_, hq⟩) | ⟨o, its, n, hk, hc, _⟩
    · exact ⟨.base (.tup hq), by simp⟩
    · cases hq
    · cases hq
    · exact ⟨.kTuple hk hc, by simp⟩
  | kt ds =>
    cases h
    obtain ⟨a, xs, rfl, hq, _⟩ := rd
    rcases hq with (hq | ⟨_, hq⟩) | ⟨o, its, n, hk, hc, _⟩
    · cases hq
    · cases hq
    · exact ⟨.kTuple hk hc, by simp⟩
  | kl ds =>
    cases h
    obtain ⟨a, xs, rfl, hq, _⟩ := rd
    rcases hq with ⟨ob, hq⟩ | ⟨o, its, n, hk, hc, _⟩
    · exact ⟨.base (.frz hq), by simp⟩
    · exact ⟨.kList hk hc, by simp⟩
  | ref a =>
    rw [show v = .ref a from rd]
    have h' : (match M a with
      | some (.lst _) => some "list"
      | some (.dct _) => some "dict"
      | _ => none) = some n := h
    cases e : M a with
    | none => rw [e] at h'; cases h'
    | some o =>
      rw [e] at h'
      cases o with
      | lst ds => cases h'; obtain ⟨xs, hx, _⟩ := I.hp.lst e; exact ⟨.base (.lst hx), by simp⟩
      | dct kvs => cases h'; obtain ⟨ks, hx, _⟩ := I.hp.dct e; exact ⟨.base (.dK hx), by simp⟩
      | _ => cases h'
  | exn c ds => cases h
theorem s_inst {a : Expr} {T : Str} {p p2 pos : Pos} {ia : E} {t : Ty} (ok : Ok3 ca X P cc) (h1 : cc.glob "isinstance" = some .blt) (h2 : cc.glob T = some .blt) (hT : cTy T = some t) (hn : notStar a = true) (ha : SndE ca X M0 P X3 a ia) :
    SndE ca X M0 P X3 (.Call (.Name "isinstance" p) [a, .Name T p2] [] pos) (.inst ia t) := by
  intro pins s σ H σ3 M Q I hw
  obtain ⟨hg, hl, hd, hnn⟩ := glob_ok ok h1
  obtain ⟨hg2, hl2, hd2, hn2⟩ := glob_ok ok h2
  obtain ⟨c1, _, _⟩ := cTy_ok hT
  have hp : Plain [.Name T p2] := fun x hx => by
    rw [List.mem_singleton] at hx
    subst hx
    rfl
  refine wpAny_Call_Name_kw (ld_blt I.inv hg (ok.g.blt _ hl) boot_isinstance ?_ hnn hd)
  refine callWith_builtin1 ?_ (star_ok hn) (plain_any hp)
  rw [star_ok hn]
  show wpAny _ _ (spliced ((false, eval a X.env) :: backTo pos (starEach [.Name T p2] X.env))) _ _ s
  refine Calls.spliced_cons (thn (ha pins s σ H σ3 M _ I hw) fun v s1 ⟨x, M1, av, H1, I1, rv, rd, st, n, hn1, q⟩ => ?_)
  show wpAny _ _ (spliced ((false, eval (.Name T p2) X.env) :: backTo pos (starEach [] X.env))) _ _ s1
  refine Calls.spliced_cons (ld_blt I1.inv hg2 (ok.g.blt _ hl2) c1 (Calls.spliced_nil ?_) hn2 hd2)
  obtain ⟨g1, g2⟩ := tyx_of I1 rd hn1
  exact thn (call_isi pins s1 σ H1 [av, .ty t.nm] [v, .type t.nm] (QV (ct X ca) H1 M1 Q) I1.inv (.cons rv (.cons rfl .nil)) ⟨av, .ty t.nm, .type n, .type t.nm, isTyN n t, rfl, .ty _, g1, kit_ty (kit_ok g2), qv_bl I1.hp q⟩) fun _ _ e => ep_st st (ep_of I1 e)
end
end L3
end
section
set_option autoImplicit false
set_option linter.all false
set_option maxRecDepth 100000
/-! L3: what is walked, and the for loop -/
namespace L3
open PySem L2 PyProof.Rows

/-- .. whatever is wanted of exceptions ahead -/
def SndEx (ca : Nat → Addr) (X : Cx) (M0 : Mp) (P : Pr) (e : Expr) (i : E) : Prop := ∀ X3 : Xp, SndE ca X M0 P X3 e i
def SndTx (ca : Nat → Addr) (X : Cx) (M0 : Mp) (P : Pr) (e : Expr) (i : T) : Prop := ∀ X3 : Xp, SndT ca X M0 P X3 e i
def SndEsx (ca : Nat → Addr) (X : Cx) (M0 : Mp) (P : Pr) (e : List Expr) (i : Es) : Prop := ∀ X3 : Xp, SndEs ca X M0 P X3 e i
/-- the walk J yields the values ds one by one, while G holds of the heap; H0: the heap at its start -/
def ItRel (C : Ct) (J : It) (ds : List D) (G : Mp → Prop) (H0 : Hp) : Prop :=
  ∀ (H : Hp) (M : Mp), TupK H0 H → RM C H M → G M → (∀ i d, ds[i]? = some d → J.go i H ∧ ∀ x H', J.yld i H x H' → RM C H' M ∧ Stp H M H' M ∧ RD C H' d x) ∧ J.stop ds.length H
/-- a new object of M is nothing to what is undone -/
def FinN (fin : Mp → Mp) : Prop := ∀ (M : Mp) (b : Addr) (m : MO), M b = none → m.free → fin (mset M b m) = mset (fin M) b m ∧ fin M b = none
/-- what is undone behind the walk; Hs: the heap ahead of it -/
def FinOk (ca : Nat → Addr) (X : Cx) (fin : Mp → Mp) (Hs : Hp) : Prop := FinN fin ∧
  ∀ (M0 : Mp) (pins : List (Addr × Obj)) (σ3 : Lo) (M : Mp) (σ : L2.St) (H : Hp) (s : Shared), I3 (ct X ca) X M0 pins σ3 M σ H s → TupK Hs H → ∃ H', I3 (ct X ca) X M0 pins σ3 (fin M) σ H' s ∧ TupK Hs H' ∧ TupK0 H H' ∧ ∀ b o, H b = some o → M b = none → H' b = some o ∧ fin M b = none
def It3 (ca : Nat → Addr) (X : Cx) (M0 : Mp) (tg : Expr) (pins : List (Addr × Obj)) (σ3 : Lo) (σ : L2.St) (H : Hp) (M : Mp) (R : ItR) (itv : Value) (s2 : Shared) : Prop :=
  ∃ (it : Addr) (fp : List Addr) (tn : Nat → Heap → Prop) (J : It) (H' : Hp) (M' : Mp) (ds : List D) (G : Mp → Prop) (fin : Mp → Mp), itv = .ref it ∧ I3 (ct X ca) X M0 pins σ3 M' σ H' s2 ∧ Turn X.prog X.w X.K tg J fp it tn ∧ tn 0 s2.heap ∧ (∀ b ∈ fp, FpOk X pins H' b) ∧
    Stp H M H' M' ∧ ItRel (ct X ca) J ds G H' ∧ FinOk ca X fin H ∧ R ds G M' fin
/-- what is walked comes -/
def SndI (ca : Nat → Addr) (X : Cx) (M0 : Mp) (P : Pr) (tg e : Expr) (k : ItK) (es : Es) : Prop :=
  ∀ (X3 : Xp) (pins : List (Addr × Obj)) (s : Shared) (σ : L2.St) (H : Hp) (σ3 : Lo) (M : Mp) (R : ItR), I3 (ct X ca) X M0 pins σ3 M σ H s → wpEs P X3 es σ3 M (fun ds M1 => wpIt k ds M1 R) →
    wpAny (model X.prog X.w) X.A (eval e X.env) (fun v s1 => wpAny (model X.prog X.w) X.A (pyIter v) (It3 ca X M0 tg pins σ3 σ H M R) X.xe s1) X.xe s

section
variable {ca : Nat → Addr} {X : Cx} {M0 M : Mp} {pins : List (Addr × Obj)} {σ3 : Lo} {σ : L2.St} {H : Hp} {s : Shared} {P : Pr} {cc : CC}
theorem finId {Hs : Hp} : FinOk ca X id Hs := ⟨fun M b m h _ => ⟨rfl, h⟩, fun M0 pins σ3 M σ H s I k => ⟨H, I, k, TupK.refl.weak, fun b o h n => ⟨h, n⟩⟩⟩
theorem free_unl {m : MO} (h : m.free) : m.unl = none := by
  cases m <;> first | rfl | exact h.elim
theorem unlk_some {a : Addr} {M : Mp} {o : MO} (h : (M a).bind MO.unl = some o) : unlk a M = mset M a o := by unfold unlk; rw [h]
theorem unlk_none {a : Addr} {M : Mp} (h : (M a).bind MO.unl = none) : unlk a M = M := by unfold unlk; rw [h]
theorem finN_unlk {a : Addr} : FinN (unlk a) := fun M b m h hm => by
  by_cases hb : b = a
  · subst hb
    have e1 : unlk b M = M := unlk_none (by rw [h]; rfl)
    have e2 : unlk b (mset M b m) = mset M b m := unlk_none (by rw [mset_same]; exact free_unl hm)
    rw [e1, e2]
    exact ⟨rfl, h⟩
  · have e0 : (mset M b m) a = M a := mset_ne (Ne.symm hb)
    cases e : (M a).bind MO.unl with
    | none =>
      rw [unlk_none e, unlk_none (by rw [e0]; exact e)]
      exact ⟨rfl, h⟩
    | some o =>
      rw [unlk_some e, unlk_some (o := o) (by rw [e0]; exact e)]
      refine ⟨?_, by rw [mset_ne hb]; exact h⟩
      funext c
      by_cases h1 : c = a
      · subst h1; rw [mset_same, mset_ne (Ne.symm hb), mset_same]
      · rw [mset_ne h1]
        by_cases h2 : c = b
        · subst h2; rw [mset_same, mset_same]
        · rw [mset_ne h2, mset_ne h2, mset_ne h1]
theorem unlock0 {a : Addr} {ob : Obj} {u : HO} (hH : H a = some (.frz ob u)) (h1 : ∀ xs, u ≠ .tup xs) (h2 : ∀ xs, u ≠ .lst xs) : TupK0 H (upd H a u) := ⟨fun b xs h => by
  have ne : b ≠ a := by rintro rfl; rw [h] at hH; cases hH
  rw [upd_ne ne]; exact h, fun b o xs h => by
  have ne : b ≠ a := by rintro rfl; rw [h] at hH; cases hH; exact h2 _ rfl
  rw [upd_ne ne]; exact h⟩
/-- what is locked, as it lies -/
theorem lk_at {C : Ct} {a : Addr} {m o : MO} (r : RM C H M) (h : M a = some m) (e : m.unl = some o) : ∃ ob u, H a = some (.frz ob u) ∧ RO C H a o u ∧ (∀ xs, u ≠ .tup xs) ∧ ∀ xs, u ≠ .lst xs := by
  cases m with
  | lck kvs =>
    cases e
    obtain ⟨ob, ks, hH, pd⟩ := r.lck h
    exact ⟨ob, _, hH, ⟨ks, rfl, pd⟩, fun _ z => (nomatch z), fun _ z => (nomatch z)⟩
  | lkT kvs =>
    cases e
    obtain ⟨h1, h2, ob, xs, hH, n, pt⟩ := r.lkT h
    exact ⟨ob, _, hH, ⟨h1, h2, xs, rfl, n, pt⟩, fun ys z => (nomatch (show HO.ext _ = HO.tup ys from z)), fun ys z => (nomatch (show HO.ext _ = HO.lst ys from z))⟩
  | _ => cases e
theorem finUnlk {a : Addr} {Hs : Hp} (hn : ∀ o u, X.H_0 a ≠ some (.frz o u)) (hs : ∀ o u, Hs a ≠ some (.frz o u)) : FinOk ca X (unlk a) Hs := by
  refine ⟨finN_unlk, ?_⟩
  intro M0 pins σ3 M σ H s I k
  cases e : (M a).bind MO.unl with
  | none =>
    rw [unlk_none e]
    exact ⟨H, I, k, TupK.refl.weak, fun b o h n => ⟨h, n⟩⟩
  | some o =>
    obtain ⟨m, em, eo⟩ := Option.bind_eq_some_iff.mp e
    obtain ⟨ob, u, hH, ro, t1, t2⟩ := lk_at I.hp em eo
    have k0 := unlock0 hH t1 t2
    rw [unlk_some e]
    refine ⟨upd H a u, ⟨I.inv.unlock hH hn, I.lo.keep0 k0, fun b m' hb => ?_, fun b o' h1 h2 => ?_, fun b o' u' h1 => ?_⟩, ⟨fun b xs h => k0.1 b xs (k.1 b xs h), fun b o' u' h => ?_⟩, k0, fun b o' h n => ?_⟩
    · by_cases h : b = a
      · subst h
        rw [mset_same] at hb
        cases hb
        exact ⟨_, upd_same, ro.keep0 k0⟩
      · rw [mset_ne h] at hb
        obtain ⟨u', hu, ro'⟩ := I.hp b m' hb
        exact ⟨u', by rw [upd_ne h]; exact hu, ro'.keep0 k0⟩
    · obtain ⟨g1, g2⟩ := I.st.1 b o' h1 h2
      have ne : b ≠ a := by rintro rfl; rw [em] at g2; cases g2
      exact ⟨by rw [upd_ne ne]; exact g1, by rw [mset_ne ne]; exact g2⟩
    · have ne : b ≠ a := by rintro rfl; exact hn _ _ h1
      rw [upd_ne ne]
      exact I.st.2 b o' u' h1
    · have ne : b ≠ a := by rintro rfl; exact hs _ _ h
      rw [upd_ne ne]
      exact k.2 b o' u' h
    · have ne : b ≠ a := by rintro rfl; rw [em] at n; cases n
      exact ⟨by rw [upd_ne ne]; exact h, by rw [mset_ne ne]; exact n⟩
/-! ### arguments, for the hand layer's rules -/
def AV (C : Ct) (H : Hp) (M : Mp) (Q : List D → Mp → Prop) : List V → Hp → Prop := fun vs H' => ∃ ds M', RM C H' M' ∧ Stp H M H' M' ∧ RDs C H' ds vs ∧ Q ds M'
def taOf (ca : Nat → Addr) (X : Cx) (M0 : Mp) (P : Pr) (X3 : Xp) (ies : Es) : TA := fun σ H Q => ∃ σ3 M Q3, (RL (ct X ca) H σ3 σ ∧ RM (ct X ca) H M ∧ Stp X.H_0 M0 H M) ∧ wpEs P X3 ies σ3 M Q3 ∧ ∀ vs H', AV (ct X ca) H M Q3 vs H' → Q vs H'
theorem pa_of {X3 : Xp} {es : List Expr} {ies : Es} (h : SndEs ca X M0 P X3 es ies) : PA X es (taOf ca X M0 P X3 ies) := by
  refine ⟨fun pos pins s σ H Q I ⟨σ3, M, Q3, ⟨h1, h2, h3⟩, hw, hq⟩ => ?_⟩
  exact thn (h pos pins s σ H σ3 M Q3 ⟨I, h1, h2, h3⟩ hw) fun us s1 ⟨ds, M1, vs, H1, I1, rv, rd, st, q⟩ => ⟨vs, H1, I1.inv, rv, hq vs H1 ⟨ds, M1, I1.hp, st, rd, q⟩⟩

/-! ### the kinds -/
theorem it_lst {a : Addr} {ds : List D} {H0 : Hp} : ItRel (ct X ca) (Itl X.K a) ds (fun M' => M' a = some (.lst ds)) H0 := by
  intro H M k r g
  obtain ⟨xs, hx, rs⟩ := r.lst g
  have hl := rs.length
  refine ⟨fun i d e => ?_, ⟨xs, SqL.of hx, by omega⟩⟩
  obtain ⟨x, e1, r1⟩ := rs.get e
  refine ⟨⟨xs, x, SqL.of hx, e1⟩, fun y H' ⟨e2, q⟩ => ?_⟩
  subst e2
  have e3 := q xs (SqL.of hx)
  rw [e1] at e3; cases e3
  exact ⟨r, Stp.refl, r1⟩
theorem it_kl {a : Addr} {xs : List V} {ds : List D} {H0 : Hp} (hq : SqF X.K H0 a xs) (rs : RDs (ct X ca) H0 ds xs) : ItRel (ct X ca) (Itl X.K a) ds (fun _ => True) H0 := by
  intro H M k r _
  have hq := k.weak.sqf hq
  have rs := rs.keep k
  have hl := rs.length
  refine ⟨fun i d e => ?_, ⟨xs, hq.sq, by omega⟩⟩
  obtain ⟨x, e1, r1⟩ := rs.get e
  refine ⟨⟨xs, x, hq.sq, e1⟩, fun y H' ⟨e2, q⟩ => ?_⟩
  subst e2
  have e3 := q xs hq.sq
  rw [e1] at e3; cases e3
  exact ⟨r, Stp.refl, r1⟩
theorem it_tup {a : Addr} {xs : List V} {ds : List D} {H0 : Hp} (hq0 : ∀ H, TupK H0 H → SqT X.K H a xs) (rs : RDs (ct X ca) H0 ds xs) : ItRel (ct X ca) (Itt X.K a) ds (fun _ => True) H0 := by
  intro H M k r _
  have hq := hq0 H k
  have rs := rs.keep k
  have hl := rs.length
  refine ⟨fun i d e => ?_, ⟨xs, hq, by omega⟩⟩
  obtain ⟨x, e1, r1⟩ := rs.get e
  refine ⟨⟨xs, x, hq, e1⟩, fun y H' ⟨e2, q⟩ => ?_⟩
  subst e2
  have e3 := q xs hq
  rw [e1] at e3; cases e3
  exact ⟨r, Stp.refl, r1⟩
theorem it_str {x : Str} {H0 : Hp} : ItRel (ct X ca) (Its x) (x.cps.toList.map fun c => .str ⟨#[c]⟩) (fun _ => True) H0 := by
  intro H M k r _
  refine ⟨fun i d e => ?_, ?_⟩
  · rw [List.getElem?_map] at e
    cases g : x.cps.toList[i]? with
    | none => rw [g] at e; cases e
    | some c =>
      rw [g] at e
      cases e
      have g' : x.cps[i]? = some c := by simpa using g
      have hlt : i < x.cps.size := by
        obtain ⟨h, _⟩ := Array.getElem?_eq_some_iff.mp g'
        exact h
      refine ⟨hlt, fun y H' ⟨e2, c', e3, e4⟩ => ?_⟩
      subst e2
      rw [g'] at e3; cases e3
      exact ⟨r, Stp.refl, e4⟩
  · show x.cps.size ≤ _
    simp
theorem dRange_get {lo hi : Int} {i : Nat} {d : D} (h : (dRange lo hi)[i]? = some d) : i < (hi - lo).toNat ∧ d = .int (lo + (i : Int)) := by
  unfold dRange at h
  rw [List.getElem?_map] at h
  by_cases hi' : i < (hi - lo).toNat
  · rw [List.getElem?_range hi'] at h
    cases h
    exact ⟨hi', rfl⟩
  · rw [List.getElem?_eq_none (by simp; omega)] at h
    cases h
theorem dRange_length {lo hi : Int} : (dRange lo hi).length = (hi - lo).toNat := by simp [dRange]
theorem it_rng {lo hi : Int} {H0 : Hp} : ItRel (ct X ca) (Itr lo (hi - lo).toNat) (dRange lo hi) (fun _ => True) H0 := by
  intro H M k r _
  refine ⟨fun i d e => ?_, ?_⟩
  · obtain ⟨h1, rfl⟩ := dRange_get e
    refine ⟨h1, fun y H' ⟨e2, e3⟩ => ?_⟩
    subst e2
    exact ⟨r, Stp.refl, e3⟩
  · show _ ≤ _
    rw [dRange_length]
    exact Nat.le_refl _
theorem it_rev {a : Addr} {ds : List D} {n : Nat} {H0 : Hp} (hn : ds.length = n) : ItRel (ct X ca) (Itv X.K a n) ds.reverse (fun M' => M' a = some (.lst ds)) H0 := by
  intro H M k r g
  obtain ⟨xs, hx, rs⟩ := r.lst g
  have hl := rs.length
  refine ⟨fun i d e => ?_, ?_⟩
  · have hlt : i < ds.length := by
      have := (List.getElem?_eq_some_iff.mp e).1
      simpa using this
    rw [List.getElem?_reverse hlt, hn] at e
    obtain ⟨x, e1, r1⟩ := rs.get e
    refine ⟨⟨by omega, xs, x, SqL.of hx, e1⟩, fun y H' ⟨e2, q⟩ => ?_⟩
    subst e2
    have e3 := q xs (SqL.of hx)
    rw [e1] at e3; cases e3
    exact ⟨r, Stp.refl, r1⟩
  · show n ≤ _
    rw [List.length_reverse, hn]
    exact Nat.le_refl _
theorem one_it {tg : Expr} {R : ItR} {H1 : Hp} {M1 : Mp} {s1 : Shared} {h' : Heap} {tk : Nat} {it : Addr} {J : It} {tn : Nat → Heap → Prop} {ds : List D} {G : Mp → Prop} (I1 : I3 (ct X ca) X M0 pins σ3 M1 σ H1 s1)
    (hit : it = s1.heap.objs.size) (hk : ∀ b o, s1.heap.get? b = some o → h'.get? b = some o) (T : Turn X.prog X.w X.K tg J [it] it tn) (t0 : tn 0 h') {fin : Mp → Mp} (st : Stp H M H1 M1) (hr : ItRel (ct X ca) J ds G H1) (q : R ds G M1 fin) (hf : FinOk ca X fin H := by exact finId) :
    It3 ca X M0 tg pins σ3 σ H M R (.ref it) { s1 with heap := h', toks := tk } := by
  refine ⟨it, [it], tn, J, H1, M1, ds, G, fin, rfl, I1.same (I1.inv.kept (t' := tk) hk), T, t0, fun b hb => ?_, st, hr, hf, q⟩
  have e : b = s1.heap.objs.size := by rw [← hit]; simpa using hb
  subst e
  exact I1.inv.fpOk (Nat.le_refl _) (I1.inv.hok.fresh (Nat.le_refl _))
/-! ### dicts -/
def unV : Value → Option V
  | .none => some .non
  | .bool b => some (.bl b)
  | .int i _ => some (.int i)
  | .str x _ => some (.str x)
  | .bytes b _ => some (.byt b)
  | .float b _ => some (.flt b)
  | .ref a => some (.ref a)
  | .type n => some (.ty n)
  | _ => none
theorem unV_of {x : V} {u : Value} (h : L2.RelV x u) : unV u = some x := by
  cases x with
  | non => rw [show u = Value.none from h]; rfl
  | bl b => rw [show u = Value.bool b from h]; rfl
  | int i => obtain ⟨t, rfl⟩ := (show ∃ t, u = Value.int i t from h); rfl
  | str i => obtain ⟨t, rfl⟩ := (show ∃ t, u = Value.str i t from h); rfl
  | byt i => obtain ⟨t, rfl⟩ := (show ∃ t, u = Value.bytes i t from h); rfl
  | flt i => obtain ⟨t, rfl⟩ := (show ∃ t, u = Value.float i t from h); rfl
  | ref a => rw [show u = Value.ref a from h]; rfl
  | ty a => rw [show u = Value.type a from h]; rfl
theorem relV_inj {x y : V} {u : Value} (h : L2.RelV x u) (h' : L2.RelV y u) : x = y := by
  have := unV_of h
  rw [unV_of h'] at this
  exact (Option.some.inj this).symm
/-- the entries of a dict, by what they stand for -/
def EntRel (C : Ct) (H : Hp) (kvs : List (D × D)) (es : Array DictEntry) : Prop := es.size = kvs.length ∧ ∀ (i : Nat) (p : D × D), kvs[i]? = some p → ∃ en x1 x2, es[i]? = some en ∧ RelV x1 en.key ∧ RelV x2 en.val ∧ RD C H p.1 x1 ∧ RD C H p.2 x2
theorem EntRel.keep {C : Ct} {H H' : Hp} {kvs : List (D × D)} {es : Array DictEntry} (k : TupK H H') (r : EntRel C H kvs es) : EntRel C H' kvs es := ⟨r.1, fun i p e => by
  obtain ⟨en, x1, x2, a, b, c, d, f⟩ := r.2 i p e
  exact ⟨en, x1, x2, a, b, c, d.keep k, f.keep k⟩⟩
theorem EntRel.all {C : Ct} {H : Hp} {kvs : List (D × D)} {es : Array DictEntry} (r : EntRel C H kvs es) : ∀ (i : Nat) (en : DictEntry), es[i]? = some en → ∃ x1 x2, RelV x1 en.key ∧ RelV x2 en.val := fun i en e => by
  have hlt := (Array.getElem?_eq_some_iff.mp e).1
  obtain ⟨p, hp⟩ : ∃ p, kvs[i]? = some p := ⟨kvs[i]'(by rw [← r.1]; exact hlt), List.getElem?_eq_getElem _⟩
  obtain ⟨en', x1, x2, a, b, c, _⟩ := r.2 i p hp
  rw [e] at a
  cases a
  exact ⟨x1, x2, b, c⟩
def IKe (d : Addr) (o : Obj) (es : Array DictEntry) : It := ⟨fun i H => (∃ u, H d = some (.frz o u)) ∧ i < es.size, fun i H x H' => H' = H ∧ ∃ en, es[i]? = some en ∧ RelV x en.key, fun i H => (∃ u, H d = some (.frz o u)) ∧ es.size ≤ i⟩
def IVa (d : Addr) (o : Obj) (es : Array DictEntry) : It := ⟨fun i H => (∃ u, H d = some (.frz o u)) ∧ i < es.size, fun i H x H' => H' = H ∧ ∃ en, es[i]? = some en ∧ RelV x en.val, fun i H => (∃ u, H d = some (.frz o u)) ∧ es.size ≤ i⟩
def IIt (d : Addr) (o : Obj) (es : Array DictEntry) : It := ⟨fun i H => (∃ u, H d = some (.frz o u)) ∧ i < es.size, fun i H x H' => ∃ T en x1 x2, es[i]? = some en ∧ RelV x1 en.key ∧ RelV x2 en.val ∧ x = .ref T ∧ H T = none ∧ H' = upd H T (.tup [x1, x2]), fun i H => (∃ u, H d = some (.frz o u)) ∧ es.size ≤ i⟩
theorem frz_at {Y : Cx} {pins : List (Addr × Obj)} {σ : L2.St} {H : Hp} {s : Shared} {d : Addr} {o : Obj} (I : Inv Y pins σ H s) (h : ∃ u, H d = some (.frz o u)) : s.heap.get? d = some o := by
  obtain ⟨u, h⟩ := h
  exact (I.hok d _ h).1
section
variable {P : Program} {w : World} {K : PySem.W.Frag} {tg : Expr} {d : Addr} {o : Obj} {es : Array DictEntry} {ep : Nat}
theorem turn_K (it : Addr) (hx : o.ExactDict) (hod : o.data = .dict es ep) (hv : ∀ (i : Nat) (en : DictEntry), es[i]? = some en → ∃ x1 x2, RelV x1 en.key ∧ RelV x2 en.val) : Turn P w K tg (IKe d o es) [it] it (fun i h => h.IsKeyIter it d i es.size ep) where
  mem := by simp
  obj := fun i h st b hb => by
    have e : b = it := by simpa using hb
    subst e
    obtain ⟨oi, e, c, dd⟩ := st
    exact ⟨oi, e, fun v z => by rw [dd] at z; cases z⟩
  keep := fun i h h' st k => st.at fun oi e => k it (by simp) oi e
  item := by
    intro X hP hw hK hc i pins s σ H E I hf st hg
    subst hP hw hK
    obtain ⟨hd, hi⟩ := hg
    obtain ⟨f0, f1, f2, f3, f4, f5⟩ := hf it (by simp)
    have hgd := frz_at I hd
    have hen : es[i]? = some es[i] := Array.getElem?_eq_getElem hi
    obtain ⟨x1, x2, r1, r2⟩ := hv i _ hen
    refine next_key_item st hgd hod rfl hen fun h' st' sb => ?_
    have I1 : Inv X pins σ H { s with heap := h' } := I.turned (t' := s.toks) (fun b ob hb e => (sb.2 b hb).trans e) f0 f1 f3 f4 f5
    obtain ⟨oi, e, c, dd⟩ := id st'
    exact ⟨es[i].key, rfl, go_of (s := { s with heap := h' }) e c dd (by decide) ⟨x1, H, I1, r1, ⟨rfl, _, hen, r1⟩, st', fun b hb => (hf b hb).1⟩⟩
  done := by
    intro X hP hw hK hc i pins s σ H E I hf st hg
    subst hP hw hK
    obtain ⟨hd, hi⟩ := hg
    obtain ⟨f0, f1, f2, f3, f4, f5⟩ := hf it (by simp)
    exact next_key_end (I.ok.hd hc) st (frz_at I hd) hod rfl hi fun h' eb => ⟨rfl, I.turned (t' := s.toks) (fun b ob hb e => eb b ob hb e) f0 f1 f3 f4 f5⟩
  self := fun A i s Q E st h => by
    refine wpAny_pyIter_slot st.typeIs PySem.F.slot_dict_keyiterator_iter (wpAny_call_entry PySem.F.slot_dict_keyiterator_iter st.typeIs PySem.F.entry_dict_keyiterator_iter ?_ (PySem.F.args_dict_keyiterator_iter_1 _))
    show wpAny _ _ (ret (.ref it)) _ _ s
    exact wpAny_pure ⟨_, rfl, "dict_keyiterator", _, st.typeIs, PySem.F.slot_dict_keyiterator_next.lookup, h⟩
theorem turn_V (it : Addr) (hx : o.ExactDict) (hod : o.data = .dict es ep) (hv : ∀ (i : Nat) (en : DictEntry), es[i]? = some en → ∃ x1 x2, RelV x1 en.key ∧ RelV x2 en.val) : Turn P w K tg (IVa d o es) [it] it (fun i h => h.IsValIter it d i es.size ep) where
  mem := by simp
  obj := fun i h st b hb => by
    have e : b = it := by simpa using hb
    subst e
    obtain ⟨oi, e, c, dd⟩ := st
    exact ⟨oi, e, fun v z => by rw [dd] at z; cases z⟩
  keep := fun i h h' st k => st.at fun oi e => k it (by simp) oi e
  item := by
    intro X hP hw hK hc i pins s σ H E I hf st hg
    subst hP hw hK
    obtain ⟨hd, hi⟩ := hg
    obtain ⟨f0, f1, f2, f3, f4, f5⟩ := hf it (by simp)
    have hgd := frz_at I hd
    have hen : es[i]? = some es[i] := Array.getElem?_eq_getElem hi
    obtain ⟨x1, x2, r1, r2⟩ := hv i _ hen
    refine PySem.wpAny_pyNext_values_item_raw st ⟨o, hgd, hx, hod⟩ hi fun h' st' sb => ?_
    have I1 : Inv X pins σ H { s with heap := h' } := I.turned (t' := s.toks) (fun b ob hb e => (sb.2 b hb).trans e) f0 f1 f3 f4 f5
    obtain ⟨oi, e, c, dd⟩ := id st'
    exact ⟨es[i].val, rfl, go_of (s := { s with heap := h' }) e c dd (by decide) ⟨x2, H, I1, r2, ⟨rfl, _, hen, r2⟩, st', fun b hb => (hf b hb).1⟩⟩
  done := by
    intro X hP hw hK hc i pins s σ H E I hf st hg
    subst hP hw hK
    obtain ⟨hd, hi⟩ := hg
    obtain ⟨f0, f1, f2, f3, f4, f5⟩ := hf it (by simp)
    exact PySem.wpAny_pyNext_values_end_raw (I.ok.hd hc) st ⟨o, frz_at I hd, hx, hod⟩ hi fun h' eb => ⟨rfl, I.turned (t' := s.toks) (fun b ob hb e => eb b ob hb e) f0 f1 f3 f4 f5⟩
  self := fun A i s Q E st h => wpAny_pyIter_valiter st h
theorem turn_I {elts : List Expr} {kk : Nat} {tpos : Pos} (it : Addr) (hx : o.ExactDict) (hod : o.data = .dict es ep) (hv : ∀ (i : Nat) (en : DictEntry), es[i]? = some en → ∃ x1 x2, RelV x1 en.key ∧ RelV x2 en.val) :
    Turn P w K (.Tuple elts kk tpos) (IIt d o es) [it] it (fun i h => ∃ ok ov, IsItemIter h it d i es.size ep ok ov) where
  mem := by simp
  obj := fun i h st b hb => by
    have e : b = it := by simpa using hb
    subst e
    obtain ⟨ok, ov, e⟩ := st
    exact ⟨_, e, fun v z => nomatch z⟩
  keep := fun i h h' st k => let ⟨ok, ov, e⟩ := st; ⟨ok, ov, k it (by simp) _ e⟩
  item := by
    intro X hP hw hK hc i pins s σ H E I hf st hg
    subst hP hw hK
    obtain ⟨hd, hi⟩ := hg
    have hgd := frz_at I hd
    have hen : es[i]? = some es[i] := Array.getElem?_eq_getElem hi
    obtain ⟨x1, x2, r1, r2⟩ := hv i _ hen
    obtain ⟨ok, ov, he⟩ := st
    have hlt : it < s.heap.objs.size := Heap.lt_size he
    refine PySem.wpAny_pyNext_items_item_raw he ⟨o, hgd, hx, hod⟩ hi fun h' ho hT hz hk => ?_
    refine ⟨_, rfl, wpAny_letOwnedTupleGo_items (s := { s with heap := h' }) ho fun h'' he' sb => ?_⟩
    have hT2 : h''.get? s.heap.objs.size = some { cls := .type "tuple", data := .seq #[es[i].key, es[i].val] } := (sb.2 _ (Nat.ne_of_gt hlt)).trans hT
    have new : ObjOk X.prog X.w (upd H s.heap.objs.size (.tup [x1, x2])) h'' s.heap.objs.size (.tup [x1, x2]) :=
      ⟨by show 2 ≤ sizeLine; decide, [es[i].key, es[i].val], .cons r1 (.cons r2 .nil), ⟨_, hT2, rfl, _, rfl⟩⟩
    have I1 : Inv X pins σ (upd H s.heap.objs.size (.tup [x1, x2])) { s with heap := h'' } :=
      I.turnedNew (t' := s.toks) (ch := [it]) (fun b ob hb e => (sb.2 b (by simpa using hb)).trans (hk b ob (by simpa using hb) e)) hf (Nat.le_refl _) new
    refine ⟨.ref s.heap.objs.size, _, I1, rfl, ⟨_, _, x1, x2, hen, r1, r2, rfl, I.hok.fresh (Nat.le_refl _), rfl⟩, ⟨es[i].key, es[i].val, he'⟩, fun b hb => ?_⟩
    have e : b = it := by simpa using hb
    rw [e, upd_ne (Nat.ne_of_lt hlt)]
    exact (hf it (by simp)).1
  done := by
    intro X hP hw hK hc i pins s σ H E I hf st hg
    subst hP hw hK
    obtain ⟨hd, hi⟩ := hg
    obtain ⟨f0, f1, f2, f3, f4, f5⟩ := hf it (by simp)
    obtain ⟨ok, ov, he⟩ := st
    exact PySem.wpAny_pyNext_items_end_raw (I.ok.hd hc) he ⟨o, frz_at I hd, hx, hod⟩ hi fun h' eb => ⟨rfl, I.turned (t' := s.toks) (fun b ob hb e => eb b ob hb e) f0 f1 f3 f4 f5⟩
  self := fun A i s Q E st h => let ⟨_, _, e⟩ := st; PySem.W.kcp_self e h
end
theorem it_K {a : Addr} {kvs : List (D × D)} {od : Obj} {es : Array DictEntry} {G : Mp → Prop} {H0 : Hp} {u : HO} (h0 : H0 a = some (.frz od u)) (er : EntRel (ct X ca) H0 kvs es) : ItRel (ct X ca) (IKe a od es) (kvs.map (·.1)) G H0 := by
  intro H M k r _
  have h1 := k.2 a od _ h0
  refine ⟨fun i d e => ?_, ⟨⟨u, h1⟩, by rw [List.length_map, er.1]; exact Nat.le_refl _⟩⟩
  rw [List.getElem?_map] at e
  cases q : kvs[i]? with
  | none => rw [q] at e; cases e
  | some p =>
    rw [q] at e
    cases e
    obtain ⟨en, x1, x2, e1, e2, e3, e4, e5⟩ := (er.keep k).2 i p q
    refine ⟨⟨⟨u, h1⟩, (Array.getElem?_eq_some_iff.mp e1).1⟩, fun x H' ⟨g1, en', g2, g3⟩ => ?_⟩
    subst g1
    rw [e1] at g2
    cases g2
    rw [relV_inj g3 e2]
    exact ⟨r, Stp.refl, e4⟩
theorem it_V {a : Addr} {kvs : List (D × D)} {od : Obj} {es : Array DictEntry} {G : Mp → Prop} {H0 : Hp} {u : HO} (h0 : H0 a = some (.frz od u)) (er : EntRel (ct X ca) H0 kvs es) : ItRel (ct X ca) (IVa a od es) (kvs.map (·.2)) G H0 := by
  intro H M k r _
  have h1 := k.2 a od _ h0
  refine ⟨fun i d e => ?_, ⟨⟨u, h1⟩, by rw [List.length_map, er.1]; exact Nat.le_refl _⟩⟩
  rw [List.getElem?_map] at e
  cases q : kvs[i]? with
  | none => rw [q] at e; cases e
  | some p =>
    rw [q] at e
    cases e
    obtain ⟨en, x1, x2, e1, e2, e3, e4, e5⟩ := (er.keep k).2 i p q
    refine ⟨⟨⟨u, h1⟩, (Array.getElem?_eq_some_iff.mp e1).1⟩, fun x H' ⟨g1, en', g2, g3⟩ => ?_⟩
    subst g1
    rw [e1] at g2
    cases g2
    rw [relV_inj g3 e3]
    exact ⟨r, Stp.refl, e5⟩
theorem it_I {a : Addr} {kvs : List (D × D)} {od : Obj} {es : Array DictEntry} {G : Mp → Prop} {H0 : Hp} {u : HO} (h0 : H0 a = some (.frz od u)) (er : EntRel (ct X ca) H0 kvs es) : ItRel (ct X ca) (IIt a od es) (kvs.map fun p => .tup [p.1, p.2]) G H0 := by
  intro H M k r _
  have h1 := k.2 a od _ h0
  refine ⟨fun i d e => ?_, ⟨⟨u, h1⟩, by rw [List.length_map, er.1]; exact Nat.le_refl _⟩⟩
  rw [List.getElem?_map] at e
  cases q : kvs[i]? with
  | none => rw [q] at e; cases e
  | some p =>
    rw [q] at e
    cases e
    obtain ⟨en, x1, x2, e1, e2, e3, e4, e5⟩ := (er.keep k).2 i p q
    refine ⟨⟨⟨u, h1⟩, (Array.getElem?_eq_some_iff.mp e1).1⟩, fun x H' ⟨T, en', y1, y2, g2, g3, g4, g5, g6, g7⟩ => ?_⟩
    subst g5 g7
    rw [e1] at g2
    cases g2
    rw [relV_inj g3 e2, relV_inj g4 e3]
    exact ⟨r.new0 g6, upd_stp g6, T, [x1, x2], rfl, .inl upd_same, _, _, rfl, e4.keep (tupK_new g6), _, _, rfl, e5.keep (tupK_new g6), rfl⟩
/-- a dict's entries -/
theorem I3.ents (I : I3 (ct X ca) X M0 pins σ3 M σ H s) {a : Addr} {kvs : List (D × D)} (h : M a = some (.dct kvs) ∨ M a = some (.dcT kvs)) : (a == sysModules) = false ∧ kvs.length ≤ sizeLine ∧ ∃ o es ep, s.heap.get? a = some o ∧ o.ExactDict ∧ o.data = .dict es ep ∧ EntRel (ct X ca) H kvs es := by
  rcases h with h | h
  · obtain ⟨ks, hx, pd⟩ := I.hp.dct h
    obtain ⟨z, hsys, vs, kv, o, es, ep, ho, hex, hd, _, pr, _⟩ := dk_rd I.inv.hok (.inl hx)
    obtain ⟨v1, v2⟩ := entries_vals pr kv
    refine ⟨hsys, by rw [Paired.length pd]; exact z, o, es, ep, ho, hex, hd, ?_, fun i p e => ?_⟩
    · have l1 := v1.length
      rw [List.length_map, List.length_map] at l1
      rw [Paired.length pd]
      have l2 : es.toList.length = es.size := Array.length_toList
      omega
    · obtain ⟨q, hq, kr, rv⟩ := pd_get pd e
      obtain ⟨u1, h1, r1⟩ := v1.get (i := i) (x := kV q.1) (by rw [List.getElem?_map, hq]; rfl)
      obtain ⟨u2, h2, r2⟩ := v2.get (i := i) (x := q.2) (by rw [List.getElem?_map, hq]; rfl)
      rw [List.getElem?_map] at h1 h2
      cases hen : es.toList[i]? with
      | none => rw [hen] at h1; cases h1
      | some en =>
        rw [hen] at h1 h2
        cases h1
        cases h2
        exact ⟨en, kV q.1, q.2, by rw [← Array.getElem?_toList]; exact hen, r1, r2, rd_key kr, rv⟩
  · obtain ⟨hs, hz, xs, us, hH, n, pt, xu, o, es, ep, ho, hx2, hd, he, _⟩ := I.dtAt (.inl h)
    refine ⟨hs, hz, o, es, ep, ho, hx2, hd, ?_, fun i p e => ?_⟩
    · rw [size_of_entries he, pt.len]
      exact (Paired.length xu).symm
    · obtain ⟨q, hq, r0, r1, r2, r3⟩ := paired_get pt e
      obtain ⟨b, hb, g1, g2, g3⟩ := paired_get xu hq
      refine ⟨entryOfKey (nestedKind X.prog X.w) b, .ref q.2.1, q.2.2, by rw [entry_at he i, hb]; rfl, ?_, g3, r2, r3⟩
      show Value.ref b.2.1 = Value.ref q.2.1
      rw [g2]
/-- the lock -/
def lkOf (T : Bool) (kvs : List (D × D)) : MO := if T = true then .lkT kvs else .lck kvs
def dkOf (T : Bool) (kvs : List (D × D)) : MO := if T = true then .dcT kvs else .dct kvs
theorem lock_at {T : Bool} {a : Addr} {kvs : List (D × D)} (I : I3 (ct X ca) X M0 pins σ3 M σ H s) (g : M a = some (dkOf T kvs)) : (a == sysModules) = false ∧ ∃ o es ep u, s.heap.get? a = some o ∧ o.ExactDict ∧ o.data = .dict es ep ∧
    I3 (ct X ca) X M0 pins σ3 (mset M a (lkOf T kvs)) σ (upd H a (.frz o u)) s ∧ Stp H M (upd H a (.frz o u)) (mset M a (lkOf T kvs)) ∧ EntRel (ct X ca) (upd H a (.frz o u)) kvs es ∧ ∀ o u, H a ≠ some (.frz o u) := by
  have g' : M a = some (.dct kvs) ∨ M a = some (.dcT kvs) := by
    cases T with
    | false => exact .inl g
    | true => exact .inr g
  obtain ⟨hs, hz, o, es, ep, ho, hx, hd, er⟩ := I.ents g'
  obtain ⟨u, hu, ro⟩ := I.hp a _ g
  have mu : Mut (some u) ∧ ∀ o' u', u ≠ .frz o' u' := by
    cases T with
    | false => obtain ⟨ks, e, _⟩ : RDct (ct X ca) H kvs u := ro; subst e; exact ⟨True.intro, fun _ _ z => nomatch z⟩
    | true => obtain ⟨_, _, xs, e, _⟩ : RDT (ct X ca) H a kvs u := ro; subst e; exact ⟨True.intro, fun o' u' z => nomatch (show HO.ext _ = HO.frz o' u' from z)⟩
  obtain ⟨od, J⟩ := I.inv.lock hu mu.1
  have eo : od = o := by
    have := frz_at J ⟨u, upd_same⟩
    rw [ho] at this
    exact (Option.some.inj this).symm
  subst eo
  have fr : (dkOf T kvs).free := by cases T <;> exact True.intro
  have kw : TupK H (upd H a (.frz od u)) := I.hp.tupKw g fr
  have st : Stp H M (upd H a (.frz od u)) (mset M a (lkOf T kvs)) := write_stp I.hp g fr
  have ro2 : RO (ct X ca) (upd H a (.frz od u)) a (lkOf T kvs) (.frz od u) := by
    cases T with
    | false => exact RDct.keep0 kw.weak (show RDct (ct X ca) H kvs u from ro)
    | true => exact RDT.keep0 kw.weak (show RDT (ct X ca) H a kvs u from ro)
  exact ⟨hs, od, es, ep, u, ho, hx, hd, I.to J (I.hp.write g ro2 fr) st, st, er.keep kw, fun o' u' z => by rw [hu] at z; cases z; exact mu.2 _ _ rfl⟩
theorem iter_dict {T : Bool} {tg : Expr} {R : ItR} {a : Addr} {kvs : List (D × D)} {H1 : Hp} {M1 : Mp} {s1 : Shared} (I1 : I3 (ct X ca) X M0 pins σ3 M1 σ H1 s1) (st : Stp H M H1 M1) (g : M1 a = some (dkOf T kvs)) (h : R (kvs.map (·.1)) (fun M' => M' a = some (lkOf T kvs)) (mset M1 a (lkOf T kvs)) (unlk a)) :
    wpAny (model X.prog X.w) X.A (pyIter (.ref a)) (It3 ca X M0 tg pins σ3 σ H M R) X.xe s1 := by
  obtain ⟨hs, o, es, ep, u, ho, hx, hd, I2, st2, er, nf⟩ := lock_at I1 g
  have n1 : ∀ o u, X.H_0 a ≠ some (.frz o u) := fun o u z => nf o u (I1.st.2 a o u z)
  have n2 : ∀ o u, H a ≠ some (.frz o u) := fun o u z => nf o u (st.2 a o u z)
  exact iter_keys hs ho hx hd (one_it (tk := s1.toks) I2 rfl (fun b o e => Heap.get?_push_of_some _ e) (turn_K _ hx hd er.all) ⟨_, Heap.get?_push_size _ rfl, rfl, rfl⟩ (st.trans st2) (it_K upd_same er) h (finUnlk n1 n2))
/-- from a value that has come -/
theorem iter_plain {tg : Expr} {R : ItR} {x : D} {v : V} {u : Value} {H1 : Hp} {M1 : Mp} {s1 : Shared} (I1 : I3 (ct X ca) X M0 pins σ3 M1 σ H1 s1) (rv : RelV v u) (rd : RD (ct X ca) H1 x v) (st : Stp H M H1 M1) (h : wpIt .plain [x] M1 R) :
    wpAny (model X.prog X.w) X.A (pyIter u) (It3 ca X M0 tg pins σ3 σ H M R) X.xe s1 := by
  cases x with
  | tup xs =>
    obtain ⟨a, ys, rfl, hq, rs⟩ := rd
    cases rv
    obtain ⟨its, rv, p, hz⟩ := I1.inv.tuple hq.sq
    exact wpAny_pyIter_tuple (show s1.heap.IsTuple a its.toArray from p) (one_it (tk := s1.toks) I1 rfl (fun b o e => Heap.get?_push_of_some _ e) (turn_tuple a _) ⟨_, Heap.get?_push_size _ rfl, rfl, rfl⟩ st (it_tup (fun H k => (k.weak.squ hq).sq) rs) h)
  | kt xs =>
    obtain ⟨a, ys, rfl, hq, rs⟩ := rd
    cases rv
    obtain ⟨its, rv, p, hz⟩ := I1.inv.tuple (sqk hq)
    exact wpAny_pyIter_tuple (show s1.heap.IsTuple a its.toArray from p) (one_it (tk := s1.toks) I1 rfl (fun b o e => Heap.get?_push_of_some _ e) (turn_tuple a _) ⟨_, Heap.get?_push_size _ rfl, rfl, rfl⟩ st (it_tup (fun H k => sqk hq) rs) h)
  | kl xs =>
    obtain ⟨a, ys, rfl, hq, rs⟩ := rd
    cases rv
    obtain ⟨its, rv, p, hz⟩ := I1.inv.list hq.sq
    exact wpAny_pyIter_list p.isList (one_it (tk := s1.toks) I1 rfl (fun b o e => Heap.get?_push_of_some _ e) (turn_list a _) ⟨_, Heap.get?_push_size _ rfl, rfl, rfl⟩ st (it_kl hq rs) h)
  | str x =>
    have e : v = .str x := rd
    subst e
    obtain ⟨t, rfl⟩ := rv
    cases ha : x.cps.all (· < 128)
    · exact wpAny_pyIter_wide ha (one_it (tk := s1.toks) I1 rfl (fun b o e => Heap.get?_push_of_some _ e) (turn_str _ x t "str_iterator" (.inr rfl)) ⟨_, Heap.get?_push_size _ rfl, rfl, rfl⟩ st it_str h.2)
    · exact wpAny_pyIter_ascii ha (one_it (tk := s1.toks) I1 rfl (fun b o e => Heap.get?_push_of_some _ e) (turn_str _ x t "str_ascii_iterator" (.inl rfl)) ⟨_, Heap.get?_push_size _ rfl, rfl, rfl⟩ st it_str h.2)
  | ref a =>
    have e : v = .ref a := rd
    subst e
    cases rv
    cases g : M1 a with
    | none => simp only [wpIt, g] at h
    | some o =>
      cases o with
      | lst ds =>
        simp only [wpIt, g] at h
        obtain ⟨xs, hx, rs⟩ := I1.hp.lst g
        obtain ⟨its, rv, p, hz⟩ := I1.inv.list (SqL.of hx)
        exact wpAny_pyIter_list p.isList (one_it (tk := s1.toks) I1 rfl (fun b o e => Heap.get?_push_of_some _ e) (turn_list a _) ⟨_, Heap.get?_push_size _ rfl, rfl, rfl⟩ st it_lst h)
      | dct kvs =>
        simp only [wpIt, g] at h
        exact iter_dict (T := false) I1 st g h
      | dcT kvs =>
        simp only [wpIt, g] at h
        exact iter_dict (T := true) I1 st g h
      | _ => simp only [wpIt, g] at h
  | _ => exact h.elim
theorem i_plain {tg e : Expr} {ie : E} (he : SndEx ca X M0 P e ie) : SndI ca X M0 P tg e .plain (.cons ie .nil) := by
  intro X3 pins s σ H σ3 M R I hw
  exact thn (he X3 pins s σ H σ3 M _ I hw) fun v s1 ⟨x, M1, xv, H1, I1, rv, rd, st, q⟩ => iter_plain I1 rv rd st q
theorem it3_of {tg : Expr} {R : ItR} {itv : Value} {s2 : Shared} (I : I3 (ct X ca) X M0 pins σ3 M σ H s)
    (h : PIE X pins σ tg (fun J H' => ∃ M' ds G fin, RM (ct X ca) H' M' ∧ Stp H M H' M' ∧ ItRel (ct X ca) J ds G H' ∧ FinOk ca X fin H ∧ R ds G M' fin) itv s2) : It3 ca X M0 tg pins σ3 σ H M R itv s2 := by
  obtain ⟨it, fp, tn, J, H', e, J', T, t0, f, M', ds, G, fin, r, st, hr, hf, q⟩ := h
  exact ⟨it, fp, tn, J, H', M', ds, G, fin, e, I.to J' r st, T, t0, f, st, hr, hf, q⟩
theorem one_arg {Q : List D → Mp → Prop} {X3 : Xp} {ie : E} (h : wpEs P X3 (.cons ie .nil) σ3 M Q) : wpEs P X3 (.cons ie .nil) σ3 M fun ds M' => ∃ d, ds = [d] ∧ Q ds M' := by
  have e : (fun (d : D) (M' : Mp) => ∃ d', [d] = [d'] ∧ Q [d] M') = fun d M' => Q [d] M' := by
    funext d M'
    exact propext ⟨fun ⟨_, _, q⟩ => q, fun q => ⟨d, rfl, q⟩⟩
  show wpE P X3 ie σ3 M fun (d : D) (M' : Mp) => ∃ d', [d] = [d'] ∧ Q [d] M'
  rw [e]
  exact h
theorem two_args {Q : List D → Mp → Prop} {X3 : Xp} {ie ie2 : E} (h : wpEs P X3 (.cons ie (.cons ie2 .nil)) σ3 M Q) : wpEs P X3 (.cons ie (.cons ie2 .nil)) σ3 M fun ds M' => (∃ d d', ds = [d, d']) ∧ Q ds M' := by
  have e : ∀ d : D, (fun (d' : D) (M' : Mp) => (∃ c c', [d, d'] = [c, c']) ∧ Q [d, d'] M') = fun d' M' => Q [d, d'] M' := by
    intro d
    funext d' M'
    exact propext ⟨fun ⟨_, q⟩ => q, fun q => ⟨⟨d, d', rfl⟩, q⟩⟩
  show wpE P X3 ie σ3 M fun (d : D) (M1 : Mp) => wpE P X3 ie2 σ3 M1 fun (d' : D) (M' : Mp) => (∃ c c', [d, d'] = [c, c']) ∧ Q [d, d'] M'
  have e2 : (fun (d : D) (M1 : Mp) => wpE P X3 ie2 σ3 M1 fun (d' : D) (M' : Mp) => (∃ c c', [d, d'] = [c, c']) ∧ Q [d, d'] M') = fun d M1 => wpE P X3 ie2 σ3 M1 fun d' M' => Q [d, d'] M' := by
    funext d M1
    rw [e d]
  rw [e2]
  exact h
theorem i_range1 {tg a : Expr} {ie : E} {p pos : Pos} (hg : Gl X "range") (hm : X.mg "range" = none) (hn : notStar a = true) (ha : SndEsx ca X M0 P [a] (.cons ie .nil)) : SndI ca X M0 P tg (.Call (.Name "range" p) [a] [] pos) .range (.cons ie .nil) := by
  intro X3 pins s σ H σ3 M R I hw
  have hs : starEach [a] X.env = [(false, eval a X.env)] := by rw [star_ok hn]; rfl
  refine thn ((pi_range1 hg hm (pa_of (ha X3)) hs).run pins s σ H _ I.inv ⟨σ3, M, _, ⟨I.lo, I.hp, I.st⟩, one_arg hw, fun vs H' ⟨ds, M', r, st, rd, ⟨d, e, q⟩⟩ => ?_⟩) fun v s1 h1 => thn h1 fun itv s2 h2 => it3_of I h2
  subst e
  obtain ⟨y, l, rfl, r1, r2⟩ := rd
  rw [show l = [] from r2]
  cases d with
  | int n =>
    rw [show y = .int n from r1]
    obtain ⟨⟨q1, q2⟩, q⟩ := q
    refine ⟨n, rfl, q1, q2, M', dRange 0 n, fun _ => True, id, r, st, ?_, finId, q⟩
    have := it_rng (ca := ca) (X := X) (lo := 0) (hi := n) (H0 := H')
    rwa [Int.sub_zero] at this
  | _ => exact q.elim
theorem i_range2 {tg a b : Expr} {ie ie2 : E} {p pos : Pos} (hg : Gl X "range") (hm : X.mg "range" = none) (hn : notStar a = true) (hn2 : notStar b = true) (ha : SndEsx ca X M0 P [a, b] (.cons ie (.cons ie2 .nil))) : SndI ca X M0 P tg (.Call (.Name "range" p) [a, b] [] pos) .range (.cons ie (.cons ie2 .nil)) := by
  intro X3 pins s σ H σ3 M R I hw
  have hs2 : starEach [b] X.env = [(false, eval b X.env)] := by rw [star_ok hn2]; rfl
  have hs : starEach [a, b] X.env = [(false, eval a X.env), (false, eval b X.env)] := by rw [star_ok hn, hs2]
  refine thn ((pi_range2 hg hm (pa_of (ha X3)) hs hs2).run pins s σ H _ I.inv ⟨σ3, M, _, ⟨I.lo, I.hp, I.st⟩, two_args hw, fun vs H' ⟨ds, M', r, st, rd, ⟨d, d', e⟩, q⟩ => ?_⟩) fun v s1 h1 => thn h1 fun itv s2 h2 => it3_of I h2
  subst e
  obtain ⟨y, l, rfl, r1, y2, l2, rfl, r2, r3⟩ := rd
  rw [show l2 = [] from r3]
  cases d with
  | int n => cases d' with
    | int m =>
      rw [show y = .int n from r1, show y2 = .int m from r2]
      obtain ⟨⟨⟨q1, q2⟩, q3, q4⟩, q⟩ := q
      exact ⟨n, m, rfl, ⟨q1, q2, q3, q4⟩, M', dRange n m, fun _ => True, id, r, st, it_rng, finId, q⟩
    | _ => exact q.elim
  | _ => exact q.elim
theorem i_rev {tg a : Expr} {ie : E} {p pos : Pos} (hg : Gl X "reversed") (hm : X.mg "reversed" = none) (hn : notStar a = true) (ha : SndEsx ca X M0 P [a] (.cons ie .nil)) : SndI ca X M0 P tg (.Call (.Name "reversed" p) [a] [] pos) .reversed (.cons ie .nil) := by
  intro X3 pins s σ H σ3 M R I hw
  have hs : starEach [a] X.env = [(false, eval a X.env)] := by rw [star_ok hn]; rfl
  refine thn ((pi_reversed hg hm (pa_of (ha X3)) hs).run pins s σ H _ I.inv ⟨σ3, M, _, ⟨I.lo, I.hp, I.st⟩, one_arg hw, fun vs H' ⟨ds, M', r, st, rd, ⟨d, e, q⟩⟩ => ?_⟩) fun v s1 h1 => thn h1 fun itv s2 h2 => it3_of I h2
  subst e
  obtain ⟨y, l, rfl, r1, r2⟩ := rd
  rw [show l = [] from r2]
  cases d with
  | ref a =>
    rw [show y = .ref a from r1]
    cases g : M' a with
    | none => simp only [wpIt, g] at q
    | some o =>
      cases o with
      | lst ds =>
        simp only [wpIt, g] at q
        obtain ⟨xs, hx, rs⟩ := r.lst g
        exact ⟨a, xs, rfl, SqL.of hx, M', ds.reverse, fun M' => M' a = some (.lst ds), id, r, st, it_rev rs.length, finId, q⟩
      | _ => simp only [wpIt, g] at q
  | _ => exact q.elim

theorem i_items {o : Expr} {ap cp tpos : Pos} {elts : List Expr} {kk : Nat} {io : E} (hn : noSuper o = true) (hl : (ap.endLine == cp.line) = true) (ho : SndEx ca X M0 P o io) : SndI ca X M0 P (.Tuple elts kk tpos) (.Call (.Attribute o "items" ap) [] [] cp) .items (.cons io .nil) := by
  intro X3 pins s σ H σ3 M R I hw
  refine wpAny_Call_method (T := "dict") (id := "dict.items") (noSuper_ok hn) rfl hl PySem.F.plainAttrs_dict PySem.F.slot_dict_items PySem.F.type_dict_items (thn (ho X3 pins s σ H σ3 M _ I hw) fun u s1 ⟨x, M1, v, H1, I1, rv, rd, st, q⟩ => ?_)
  obtain ⟨T, a, kvs, ex, g, h⟩ : ∃ (T : Bool) (a : Addr) (kvs : List (D × D)), x = .ref a ∧ M1 a = some (dkOf T kvs) ∧ R (kvs.map fun p => .tup [p.1, p.2]) (fun M' => M' a = some (lkOf T kvs)) (mset M1 a (lkOf T kvs)) (unlk a) := by
    cases x with
    | ref a =>
      have q : wpIt .items [.ref a] M1 R := q
      cases g : M1 a with
      | none => simp only [wpIt, g] at q
      | some o =>
        cases o with
        | dct kvs =>
          simp only [wpIt, g] at q
          exact ⟨false, a, kvs, rfl, g, q⟩
        | dcT kvs =>
          simp only [wpIt, g] at q
          exact ⟨true, a, kvs, rfl, g, q⟩
        | _ => simp only [wpIt, g] at q
    | _ => exact q.elim
  subst ex
  have e : v = .ref a := rd
  subst e
  cases rv
  obtain ⟨hs, ob, es, ep, u, hob, hx, hd, I2, st2, er, nf⟩ := lock_at I1 g
  have n1 : ∀ o u, X.H_0 a ≠ some (.frz o u) := fun o u z => nf o u (I1.st.2 a o u z)
  have n2 : ∀ o u, H a ≠ some (.frz o u) := fun o u z => nf o u (st.2 a o u z)
  refine ⟨⟨ob, hob, hx.1⟩, fun b q => by cases q; exact ⟨ob, hob, hx.2.1⟩, ?_⟩
  have I3' : I3 (ct X ca) X M0 pins σ3 (mset M1 a (lkOf T kvs)) σ (upd H1 a (.frz ob u)) { s1 with heap := s1.heap.push { cls := .type "dict_items", data := .fields #[.ref a] } } := I2.same (I2.inv.kept (t' := s1.toks) fun b ob q => Heap.get?_push_of_some _ q)
  have hob2 := Heap.get?_push_of_some { cls := .type "dict_items", data := .fields #[.ref a] } hob
  have fin : wpAny (model X.prog X.w) X.A (pyIter (.ref s1.heap.objs.size)) (It3 ca X M0 (.Tuple elts kk tpos) pins σ3 σ H M R) X.xe { s1 with heap := s1.heap.push { cls := .type "dict_items", data := .fields #[.ref a] } } :=
    PySem.wpAny_pyIter_items_raw (d := a) (es := es) (ep := ep) ⟨_, Heap.get?_push_size _ rfl, rfl, rfl⟩ ⟨ob, hob2, hx, hd⟩ (one_it (tk := s1.toks) I3' rfl (fun b o e => Heap.get?_push_of_some _ e) (turn_I _ hx hd er.all) ⟨.none, .none, Heap.get?_push_size _ rfl⟩ (st.trans st2) (it_I upd_same er) h (finUnlk n1 n2))
  show wpAny _ _ (callWith cp (.builtin "dict.items") [.ref a] [] []) _ X.xe s1
  exact method_meetsIn PySem.F.slot_dict_items PySem.F.entry_dict_items rfl (PySem.evalArgs_none ⟨rfl, ⟨ob, hob, hx.1⟩, PySem.F.args_dict_items_1 _, _, DT.meetsItems (es := es) (ep := ep) hs, ⟨⟨ob, hob, hx, hd⟩, fin⟩⟩)
theorem i_values {tg o : Expr} {ap cp : Pos} {io : E} (hn : noSuper o = true) (hl : (ap.endLine == cp.line) = true) (ho : SndEx ca X M0 P o io) : SndI ca X M0 P tg (.Call (.Attribute o "values" ap) [] [] cp) .values (.cons io .nil) := by
  intro X3 pins s σ H σ3 M R I hw
  refine wpAny_Call_method (T := "dict") (id := "dict.values") (noSuper_ok hn) rfl hl PySem.F.plainAttrs_dict PySem.F.slot_dict_values PySem.F.type_dict_values (thn (ho X3 pins s σ H σ3 M _ I hw) fun u s1 ⟨x, M1, v, H1, I1, rv, rd, st, q⟩ => ?_)
  obtain ⟨T, a, kvs, ex, g, h⟩ : ∃ (T : Bool) (a : Addr) (kvs : List (D × D)), x = .ref a ∧ M1 a = some (dkOf T kvs) ∧ R (kvs.map (·.2)) (fun M' => M' a = some (lkOf T kvs)) (mset M1 a (lkOf T kvs)) (unlk a) := by
    cases x with
    | ref a =>
      have q : wpIt .values [.ref a] M1 R := q
      cases g : M1 a with
      | none => simp only [wpIt, g] at q
      | some o =>
        cases o with
        | dct kvs =>
          simp only [wpIt, g] at q
          exact ⟨false, a, kvs, rfl, g, q⟩
        | dcT kvs =>
          simp only [wpIt, g] at q
          exact ⟨true, a, kvs, rfl, g, q⟩
        | _ => simp only [wpIt, g] at q
    | _ => exact q.elim
  subst ex
  have e : v = .ref a := rd
  subst e
  cases rv
  obtain ⟨hs, ob, es, ep, u, hob, hx, hd, I2, st2, er, nf⟩ := lock_at I1 g
  have n1 : ∀ o u, X.H_0 a ≠ some (.frz o u) := fun o u z => nf o u (I1.st.2 a o u z)
  have n2 : ∀ o u, H a ≠ some (.frz o u) := fun o u z => nf o u (st.2 a o u z)
  refine ⟨⟨ob, hob, hx.1⟩, fun b q => by cases q; exact ⟨ob, hob, hx.2.1⟩, ?_⟩
  have I3' : I3 (ct X ca) X M0 pins σ3 (mset M1 a (lkOf T kvs)) σ (upd H1 a (.frz ob u)) { s1 with heap := s1.heap.push { cls := .type "dict_values", data := .fields #[.ref a] } } := I2.same (I2.inv.kept (t' := s1.toks) fun b ob q => Heap.get?_push_of_some _ q)
  have hob2 := Heap.get?_push_of_some { cls := .type "dict_values", data := .fields #[.ref a] } hob
  have fin : wpAny (model X.prog X.w) X.A (pyIter (.ref s1.heap.objs.size)) (It3 ca X M0 tg pins σ3 σ H M R) X.xe { s1 with heap := s1.heap.push { cls := .type "dict_values", data := .fields #[.ref a] } } :=
    PySem.wpAny_pyIter_values_raw (d := a) (es := es) (ep := ep) ⟨_, Heap.get?_push_size _ rfl, rfl, rfl⟩ ⟨ob, hob2, hx, hd⟩ (one_it (tk := s1.toks) I3' rfl (fun b o e => Heap.get?_push_of_some _ e) (turn_V _ hx hd er.all) ⟨_, Heap.get?_push_size _ rfl, rfl, rfl⟩ (st.trans st2) (it_V upd_same er) h (finUnlk n1 n2))
  show wpAny _ _ (callWith cp (.builtin "dict.values") [.ref a] [] []) _ X.xe s1
  exact method_meetsIn PySem.F.slot_dict_values PySem.F.entry_dict_values rfl (PySem.evalArgs_none ⟨rfl, ⟨ob, hob, hx.1⟩, PySem.F.args_dict_values_1 _, _, PySem.meets_dict_values_raw a hs, ⟨⟨es, ep, ⟨ob, hob, hx, hd⟩⟩, fin⟩⟩)

/-! ### targets -/
theorem I3.store (I : I3 (ct X ca) X M0 pins σ3 M σ H s) {i : Nat} {d : D} {v : V} (rd : RD (ct X ca) H d v) {s' : Shared} (J : Inv X pins (σ.set i (some v)) H s') : I3 (ct X ca) X M0 pins (σ3.set i (some d)) M (σ.set i (some v)) H s' :=
  ⟨J, I.lo.set rd, I.hp, I.st⟩

def SndTg (ca : Nat → Addr) (X : Cx) (M0 : Mp) (tg : Expr) (t : Tg) : Prop :=
  ∀ (pins : List (Addr × Obj)) (s : Shared) (σ : L2.St) (H : Hp) (σ3 : Lo) (M : Mp) (d : D) (v : V) (u : Value) (k : Lo → Prop), I3 (ct X ca) X M0 pins σ3 M σ H s → RelV v u → RD (ct X ca) H d v → wpTg t d σ3 M k →
    wpAny (model X.prog X.w) X.A (assign tg X.env u) (fun _ s' => ∃ σ3' σ', I3 (ct X ca) X M0 pins σ3' M σ' H s' ∧ ((∀ j, j ∉ t.sl → σ'[j]? = σ[j]?) ∧ σ'.length = σ.length) ∧ k σ3') X.xe s
theorem tg_one {x : Str} {pos : Pos} {i : Nat} (ok : Ok3 ca X P cc) (hi : cc.slotW x = some i) : SndTg ca X M0 (.Name x pos) (.one i) := by
  intro pins s σ H σ3 M d v u k I rv rd h
  obtain ⟨h1, h2, h3⟩ := slotW_ok ok hi
  refine wpAny_assign_Name (store_ok I.inv ok.nd h1 h2 rv (fun s2 J => ⟨_, _, I.store rd J, ⟨fun j hj => ?_, List.length_set ..⟩, h⟩) h3)
  rw [List.getElem?_set_ne]
  intro e
  exact hj (by rw [e]; exact List.mem_singleton.mpr rfl)
/-- one behind another -/
def gNames : List Nat → TGs
  | [] => gNil
  | i :: l => gCons (gName i) (gNames l)
theorem each_names (cc : CC) : ∀ (es : List Expr) {l : List Nat} {env : Env}, cTgs cc es = some l → (assignEach es env).map (·.2) = es.map (fun e => assign e env) ∧ (assignEach es env).length = l.length ∧ (assignEach es env).findIdx? (·.1) = none
  | [], l, env, h => by cases h; exact ⟨rfl, rfl, rfl⟩
  | e :: es, l, env, h => by
    cases e with
    | Name x p =>
      simp only [cTgs] at h
      split at h
      · rename_i h1 h2
        cases h
        obtain ⟨g1, g2, g3⟩ := each_names cc es (env := env) h2
        have hc : assignEach (.Name x p :: es) env = (false, assign (.Name x p) env) :: assignEach es env := rfl
        refine ⟨by rw [hc, List.map_cons, List.map_cons, g1], by rw [hc, List.length_cons, List.length_cons, g2], ?_⟩
        rw [hc, List.findIdx?_cons]
        simp [g3]
      · cases h
    | _ => simp [cTgs] at h
theorem pgs_names (ok : Ok3 ca X P cc) : ∀ {es : List Expr} {l : List Nat}, cTgs cc es = some l → PGs X es (gNames l)
  | [], l, h => by cases h; exact pgs_nil
  | e :: es, l, h => by
    cases e with
    | Name x p =>
      simp only [cTgs] at h
      split at h
      · rename_i h1 h2
        cases h
        obtain ⟨n1, n2, n3⟩ := slotW_ok ok h1
        exact pgs_cons (pg_name ok.nd n1 n2 n3) (pgs_names ok h2) rfl
      · cases h
    | _ => simp [cTgs] at h
theorem names_ok {ca : Nat → Addr} {X : Cx} {H : Hp} : ∀ {l : List Nat} {ds : List D} {vs : List V} {σ3 σ3' : Lo} {σ : L2.St} {Q : L2.St → Hp → Prop}, RDs (ct X ca) H ds vs → RL (ct X ca) H σ3 σ → setMany l ds σ3 = some σ3' → (∀ σ', RL (ct X ca) H σ3' σ' → (∀ j, j ∉ l → σ'[j]? = σ[j]?) → σ'.length = σ.length → Q σ' H) → gNames l vs σ H Q
  | [], [], vs, σ3, σ3', σ, Q, r, rl, h, q => by cases h; exact ⟨r, q σ rl (fun _ _ => rfl) rfl⟩
  | i :: l, d :: ds, vs, σ3, σ3', σ, Q, r, rl, h, q => by
    obtain ⟨v, ws, rfl, r1, r2⟩ := r
    refine ⟨v, ws, rfl, names_ok r2 (rl.set r1) h fun σ' h1 h2 h3 => q σ' h1 (fun j hj => ?_) (by rw [h3, List.length_set])⟩
    rw [h2 j fun z => hj (List.mem_cons_of_mem _ z), List.getElem?_set_ne]
    intro e
    exact hj (by rw [e]; exact List.mem_cons_self)
  | [], _ :: _, _, _, _, _, _, _, _, h, _ => by cases h
  | _ :: _, [], _, _, _, _, _, _, _, h, _ => by cases h
theorem setMany_len : ∀ {l : List Nat} {ds : List D} {σ σ' : Lo}, setMany l ds σ = some σ' → ds.length = l.length
  | [], [], _, _, _ => rfl
  | i :: l, d :: ds, σ, σ', h => by rw [List.length_cons, List.length_cons, setMany_len (l := l) (ds := ds) h]
  | [], _ :: _, _, _, h => by cases h
  | _ :: _, [], _, _, h => by cases h
theorem tg_many {es : List Expr} {kk : Nat} {pos : Pos} {l : List Nat} (ok : Ok3 ca X P cc) (h : cTgs cc es = some l) : SndTg ca X M0 (.Tuple es kk pos) (.many l) := by
  intro pins s σ H σ3 M d v u k I rv rd hw
  obtain ⟨_, e2, e3⟩ := each_names cc es (env := X.env) h
  cases d with
  | tup ds =>
    obtain ⟨σ', hs, q⟩ := hw
    obtain ⟨a, xs, rfl, hq, rs⟩ := rd
    refine thn ((pg_tup (pos := pos) (k := kk) ok.hc (pgs_names ok h) e2 e3).run pins s σ H (.ref a) u (fun σ2 H2 => H2 = H ∧ RL (ct X ca) H σ' σ2 ∧ (∀ j, j ∉ l → σ2[j]? = σ[j]?) ∧ σ2.length = σ.length) I.inv rv ⟨a, xs, rfl, hq.sq, by rw [← rs.length]; exact setMany_len hs, names_ok rs I.lo hs fun σ2 h2 h3 h4 => ⟨rfl, h2, h3, h4⟩⟩) fun _ s1 ⟨σ2, H2, J, e, rl, h3, h4⟩ => ?_
    subst e
    exact ⟨σ', σ2, ⟨J, rl, I.hp, I.st⟩, ⟨h3, h4⟩, q⟩
  | ref a =>
    have hw' : (match M a with
      | some (.lst ds) => ∃ σ', setMany l ds σ3 = some σ' ∧ k σ'
      | _ => False) := hw
    have ev : v = .ref a := rd
    subst ev
    cases g : M a with
    | none => rw [g] at hw'; exact hw'.elim
    | some o =>
      rw [g] at hw'
      cases o with
      | lst ds =>
        obtain ⟨σ', hs, q⟩ := hw'
        obtain ⟨xs, hx, rs⟩ := I.hp.lst g
        refine thn ((pg_lst (pos := pos) (k := kk) ok.hc (pgs_names ok h) e2 e3).run pins s σ H (.ref a) u (fun σ2 H2 => H2 = H ∧ RL (ct X ca) H σ' σ2 ∧ (∀ j, j ∉ l → σ2[j]? = σ[j]?) ∧ σ2.length = σ.length) I.inv rv ⟨a, xs, rfl, SqL.of hx, by rw [← rs.length]; exact setMany_len hs, names_ok rs I.lo hs fun σ2 h2 h3 h4 => ⟨rfl, h2, h3, h4⟩⟩) fun _ s1 ⟨σ2, H2, J, e, rl, h3, h4⟩ => ?_
        subst e
        exact ⟨σ', σ2, ⟨J, rl, I.hp, I.st⟩, ⟨h3, h4⟩, q⟩
      | _ => exact hw'.elim
  | _ => exact hw.elim
end
end L3
end
section
set_option autoImplicit false
set_option linter.all false
set_option maxRecDepth 100000
/-! L3: comprehensions -/
namespace L3
open PySem L2 PyProof.Rows

/-- a heap in which everything is told: nothing is asked of what is untold -/
def MAll : Mp := fun _ => some (.lst [])
section
variable {ca : Nat → Addr} {X : Cx} {M0 M : Mp} {P : Pr} {cc : CC}
/-- a state of a block -/
theorem i3_blk {Y : Cx} {pins : List (Addr × Obj)} {σ : L2.St} {H : Hp} {s : Shared} {σ3 : Lo} {M : Mp} (I : Inv Y pins σ H s) (rl : RL (ct Y ca) H σ3 σ) (rm : RM (ct Y ca) H M) : I3 (ct Y ca) Y MAll pins σ3 M σ H s :=
  ⟨I, rl, rm, fun a o _ z => (nomatch z), I.base.frzs⟩
def teB (C : Ct) (P : Pr) (ie : E) : TE := fun σ H Q => ∃ σ3 M Q3, (RL C H σ3 σ ∧ RM C H M) ∧ wpE P (fun _ _ => False) ie σ3 M Q3 ∧ ∀ x M' v H', RL C H' σ3 σ → RM C H' M' → Stp H M H' M' → RD C H' x v → Q3 x M' → Q v H'
def ttB (C : Ct) (P : Pr) (it : T) : TT := fun σ H Q => ∃ σ3 M k, (RL C H σ3 σ ∧ RM C H M) ∧ wpT P (fun _ _ => False) it σ3 M k ∧ ∀ b M' H', RL C H' σ3 σ → RM C H' M' → Stp H M H' M' → k b M' → Q b H'
def tgB (C : Ct) (t : Tg) : TG := fun v σ H Q => ∃ σ3 M d k, (RL C H σ3 σ ∧ RM C H M ∧ RD C H d v) ∧ wpTg t d σ3 M k ∧ ∀ σ3' σ', RL C H σ3' σ' → (∀ j, j ∉ t.sl → σ'[j]? = σ[j]?) → σ'.length = σ.length → k σ3' → Q σ' H
def tiB (ca : Nat → Addr) (X : Cx) (M0 : Mp) (P : Pr) (X3 : Xp) (k : ItK) (es : Es) : TI := fun σ H R => ∃ σ3 M R3, (RL (ct X ca) H σ3 σ ∧ RM (ct X ca) H M ∧ Stp X.H_0 M0 H M) ∧ wpEs P X3 es σ3 M (fun ds M1 => wpIt k ds M1 R3) ∧
  ∀ J H' M' ds G fin, RL (ct X ca) H' σ3 σ → RM (ct X ca) H' M' → Stp X.H_0 M0 H' M' → Stp H M H' M' → ItRel (ct X ca) J ds G H' → FinOk ca X fin H → R3 ds G M' fin → R J H'
theorem pe_B {Y : Cx} {e : Expr} {ie : E} (h : SndE ca Y MAll P (fun _ _ => False) e ie) : PE Y e (teB (ct Y ca) P ie) := by
  refine ⟨fun pins s σ H Q I ⟨σ3, M, Q3, ⟨h1, h2⟩, hw, hq⟩ => ?_⟩
  exact thn (h pins s σ H σ3 M Q3 (i3_blk I h1 h2) hw) fun u s1 ⟨d, M1, v, H1, I1, rv, rd, st, q⟩ => ⟨v, H1, I1.inv, rv, hq d M1 v H1 I1.lo I1.hp st rd q⟩
theorem pt_B {Y : Cx} {e : Expr} {ie : T} (h : SndT ca Y MAll P (fun _ _ => False) e ie) : PT Y e (ttB (ct Y ca) P ie) := by
  refine ⟨fun pins s σ H Q I ⟨σ3, M, Q3, ⟨h1, h2⟩, hw, hq⟩ => ?_⟩
  exact thn (h _ pins s σ H σ3 M Q3 (.inl rfl) (i3_blk I h1 h2) hw) fun u s1 ⟨M1, H1, I1, st, q⟩ => ⟨H1, I1.inv, hq u M1 H1 I1.lo I1.hp st q⟩
theorem pts_B0 {Y : Cx} : PTs Y [] (ttB (ct Y ca) P .tt) := by
  refine ⟨fun pins s σ H Q I ⟨σ3, M, Q3, ⟨h1, h2⟩, hw, hq⟩ => ?_⟩
  exact pts_nil.run pins s σ H Q I (hq true M H h1 h2 Stp.refl hw)
theorem pg_B {Y : Cx} {tg : Expr} {t : Tg} (h : SndTg ca Y MAll tg t) : PG Y tg (tgB (ct Y ca) t) := by
  refine ⟨fun pins s σ H v u Q I rv ⟨σ3, M, d, k, ⟨h1, h2, h3⟩, hw, hq⟩ => ?_⟩
  exact thn (h pins s σ H σ3 M d v u k (i3_blk I h1 h2) rv h3 hw) fun _ s1 ⟨σ3', σ', I1, ⟨g1, g2⟩, q⟩ => ⟨σ', H, I1.inv, hq σ3' σ' I1.lo g1 g2 q⟩
theorem pi_B {X3 : Xp} {tg e : Expr} {k : ItK} {es : Es} (h : SndI ca X M0 P tg e k es) : PI X tg e (tiB ca X M0 P X3 k es) := by
  refine ⟨fun pins s σ H R I ⟨σ3, M, R3, ⟨h1, h2, h3⟩, hw, hq⟩ => ?_⟩
  exact thn (h X3 pins s σ H σ3 M R3 ⟨I, h1, h2, h3⟩ hw) fun v s1 g1 => thn g1 fun itv s2 ⟨it, fp, tn, J, H', M', ds, G, fin, e, I2, T, t0, f, st, hr, hf, q⟩ =>
    ⟨it, fp, tn, J, H', e, I2.inv, T, t0, f, hq J H' M' ds G fin I2.lo I2.hp I2.st st hr hf q⟩
theorem wipe_at {σ : L2.St} : ∀ {vs : List Nat} (j : Nat), j ∉ vs → (wipe σ vs)[j]? = σ[j]?
  | [], j, _ => rfl
  | v :: vs, j, h => by
    unfold wipe
    rw [List.getElem?_set_ne (fun e => h (by rw [e]; exact List.mem_cons_self)), wipe_at j fun z => h (List.mem_cons_of_mem _ z)]
theorem wipe_in {σ : L2.St} : ∀ {vs : List Nat} (j : Nat), j ∈ vs → j < σ.length → (wipe σ vs)[j]? = some none
  | v :: vs, j, h, hl => by
    unfold wipe
    by_cases e : v = j
    · subst e
      rw [List.getElem?_set_self (by rw [wipe_length]; exact hl)]
    · rw [List.getElem?_set_ne e]
      exact wipe_in j ((List.mem_cons.mp h).resolve_left fun z => e z.symm) hl
theorem wipe_eq {σ σ' : L2.St} {vs : List Nat} (h : ∀ j, j ∉ vs → σ'[j]? = σ[j]?) (hl : σ'.length = σ.length) : wipe σ' vs = wipe σ vs := by
  apply List.ext_getElem?
  intro j
  by_cases hj : j ∈ vs
  · by_cases hlt : j < σ.length
    · rw [wipe_in j hj (by rw [hl]; exact hlt), wipe_in j hj hlt]
    · rw [List.getElem?_eq_none (by rw [wipe_length]; omega), List.getElem?_eq_none (by rw [wipe_length]; omega)]
  · rw [wipe_at j hj, wipe_at j hj, h j hj]
theorem wipe_wipe {σ : L2.St} {vs : List Nat} : wipe (wipe σ vs) vs = wipe σ vs := wipe_eq (fun j hj => wipe_at j hj) (wipe_length ..)
theorem rl_wipe {C : Ct} {H : Hp} {σ3 : Lo} {σ : L2.St} (h : RL C H σ3 σ) (vs : List Nat) : RL C H (wipeL vs σ3) (wipe σ vs) := by
  have len : ∀ (vs : List Nat) (σ3 : Lo), (wipeL vs σ3).length = σ3.length := by
    intro vs
    induction vs with
    | nil => intro σ3; rfl
    | cons v vs ih => intro σ3; show (wipeL vs (σ3.set v none)).length = _; rw [ih, List.length_set]
  have at_ : ∀ (vs : List Nat) (σ3 : Lo) (i : Nat) (d : D), (wipeL vs σ3)[i]? = some (some d) → i ∉ vs ∧ σ3[i]? = some (some d) := by
    intro vs
    induction vs with
    | nil => intro σ3 i d e; exact ⟨List.not_mem_nil, e⟩
    | cons v vs ih =>
      intro σ3 i d e
      obtain ⟨h1, h2⟩ := ih (σ3.set v none) i d e
      by_cases hi : v = i
      · subst hi
        by_cases hl : v < σ3.length
        · rw [List.getElem?_set_self hl] at h2; cases h2
        · rw [List.getElem?_eq_none (by rw [List.length_set]; omega)] at h2; cases h2
      · rw [List.getElem?_set_ne hi] at h2
        exact ⟨fun z => (List.mem_cons.mp z).elim (fun z => hi z.symm) h1, h2⟩
  refine ⟨by rw [len, wipe_length]; exact h.1, fun i d e => ?_⟩
  obtain ⟨h1, h2⟩ := at_ vs σ3 i d e
  obtain ⟨v, hv, rd⟩ := h.2 i d h2
  exact ⟨v, by rw [wipe_at i h1]; exact hv, rd⟩
def LcEnd (ca : Nat → Addr) (X : Cx) (M0 : Mp) (σ : L2.St) (H : Hp) (σ3 : Lo) (M : Mp) (Q : Post) (D : Addr) (H' : Hp) : Prop :=
  ∃ acc xs M' fin, RL (ct X ca) H' σ3 σ ∧ RM (ct X ca) H' M' ∧ Stp H M H' M' ∧ Stp X.H_0 M0 H' M' ∧ (∀ o, H D = some o → M D = none → False) ∧ H' D = some (.lst xs) ∧ M' D = none ∧ RDs (ct X ca) H' acc xs ∧ FinOk ca X fin H ∧ wpNew (fin M') (.lst acc) Q
theorem lc_end {pins : List (Addr × Obj)} {σ σ' : L2.St} {H H' : Hp} {s s' : Shared} {σ3 : Lo} {Q : Post} {D : Addr} (I : I3 (ct X ca) X M0 pins σ3 M σ H s) (q : LcEnd ca X M0 σ H σ3 M Q D H') (J : Inv X pins σ' H' s') {σ4 : Lo} (rl' : RL (ct X ca) H' σ4 σ') :
    ∃ M2 H2, I3 (ct X ca) X M0 pins σ4 M2 σ' H2 s' ∧ Stp H M H2 M2 ∧ Q (.ref D) M2 := by
  obtain ⟨acc, xs, M', fin, rl, rm, st, st0, hD0, hD, hDM, rs, ⟨fn, hf⟩, q⟩ := q
  have rm2 : RM (ct X ca) H' (mset M' D (.lst acc)) := fun b m hb => by
    by_cases h : b = D
    · subst h
      rw [mset_same] at hb
      cases hb
      exact ⟨_, hD, rs⟩
    · rw [mset_ne h] at hb
      exact rm b m hb
  have up : ∀ {Ha : Hp} {Ma : Mp}, Stp Ha Ma H' M' → (∀ o, Ha D = some o → Ma D = none → False) → Stp Ha Ma H' (mset M' D (.lst acc)) := fun {Ha Ma} z hn => ⟨fun b o h1 h2 => by
    obtain ⟨g1, g2⟩ := z.1 b o h1 h2
    have ne : b ≠ D := by rintro rfl; exact hn o h1 h2
    exact ⟨g1, by rw [mset_ne ne]; exact g2⟩, z.2⟩
  have n0 : ∀ o, X.H_0 D = some o → M0 D = none → False := fun o h1 h2 => by
    obtain ⟨g1, g2⟩ := I.st.1 D o h1 h2
    exact hD0 o g1 g2
  have I2 : I3 (ct X ca) X M0 pins σ4 (mset M' D (.lst acc)) σ' H' s' := ⟨J, rl', rm2, up st0 n0⟩
  obtain ⟨H'', I3', k1, k2, k3⟩ := hf M0 pins σ4 _ σ' H' s' I2 (st.tupK I.hp)
  obtain ⟨e1, e2⟩ := fn M' D (.lst acc) hDM trivial
  rw [e1] at I3' k3
  refine ⟨_, H'', I3', ⟨fun b o h1 h2 => ?_, k1.2⟩, q D e2⟩
  obtain ⟨g1, g2⟩ := st.1 b o h1 h2
  have ne : b ≠ D := by rintro rfl; exact hD0 o h1 h2
  have := k3 b o g1 (by rw [mset_ne ne]; exact g2)
  exact this
theorem lc_tr {X3 : Xp} {pins : List (Addr × Obj)} {s : Shared} {σ : L2.St} {H : Hp} {σ3 : Lo} {Q : Post} {Qd : VK} {ie : E} {t : Tg} {k : ItK} {es : Es} {ic : T} (own : List Nat) (hsl : ∀ i ∈ t.sl, i ∈ own) (I : I3 (ct X ca) X M0 pins σ3 M σ H s) (hw : wpE P X3 (.comp own ie t k es ic) σ3 M Q)
    (hQ : ∀ D H', LcEnd ca X M0 σ H σ3 M Q D H' → Qd (.ref D) H') : tLc (tiB ca X M0 P X3 k es) (tgB (ct X ca) t) (ttB (ct X ca) P ic) (teB (ct X ca) P ie) own σ H Qd := by
  refine ⟨σ3, M, _, ⟨I.lo, I.hp, I.st⟩, hw, fun J H1 M1 ds G fin rl1 rm1 st01 st1 hr hf w D hD => ?_⟩
  have hD0 : ∀ o, H D = some o → M D = none → False := fun o h1 h2 => by
    have := (st1.1 D o h1 h2).1
    rw [hD] at this
    cases this
  have nM : M1 D = none := rm1.free hD
  have k1 : TupK H1 (upd H1 D (.lst [])) := tupK_new hD
  let body : L3.D → Mp → (Option L3.D → Mp → Prop) → Prop := fun x M kk => wpTg t x (wipeL own σ3) M fun σ1 => wpT P (fun _ _ => False) ic σ1 M fun r M3 => if r = true then wpE P (fun _ _ => False) ie σ1 M3 fun d M4 => kk (some d) M4 else kk none M3
  let fn : List L3.D → Mp → Prop := fun acc M5 => wpNew (fin M5) (.lst acc) Q
  let St : Nat → Hp → Prop := fun i Hc => i ≤ ds.length ∧ ∃ acc xs M', RL (ct X ca) Hc σ3 σ ∧ RM (ct X ca) Hc M' ∧ Stp H1 M1 Hc M' ∧ Hc D = some (.lst xs) ∧ M' D = none ∧ RDs (ct X ca) Hc acc xs ∧ compL body G (ds.drop i) acc M' fn
  refine ⟨fun i m Hc => m = ds.length - i ∧ St i Hc, ⟨ds.length, rfl, Nat.zero_le _, [], [], M1, rl1.keep k1, rm1.new0 hD, upd_stp hD, upd_same, nM, rfl, w⟩, ?_⟩
  rintro i m Hc ⟨rfl, hi, acc, xs, M', rl, rm, st, hcD, nD, pd, w⟩
  have kc := st.tupK rm1
  by_cases hlt : i < ds.length
  · rw [List.drop_eq_getElem_cons hlt] at w
    obtain ⟨g, w⟩ := w
    obtain ⟨go, yl⟩ := (hr Hc M' kc rm g).1 i ds[i] (List.getElem?_eq_getElem hlt)
    refine .inr ⟨go, St (i + 1), fun H' n => ⟨ds.length - (i + 1), by omega, rfl, n⟩, fun x H' y => ?_⟩
    obtain ⟨rmY, stY, rdY⟩ := yl x H' y
    have kY := stY.tupK rm
    obtain ⟨dY, nDY⟩ := stY.1 D _ hcD nD
    refine ⟨wipeL own σ3, M', ds[i], _, ⟨rl_wipe (rl.keep kY) _, rmY, rdY⟩, w, fun σ3' σ2 rl2 hj hl w2 => ⟨?_, ?_⟩⟩
    · rw [wipe_eq (σ := wipe σ own) (fun j hj2 => hj j fun z => hj2 (hsl j z)) hl, wipe_wipe]
    refine ⟨σ3', M', _, ⟨rl2, rmY⟩, w2, fun b M3 H3 rl3 rm3 st3 w3 => ?_⟩
    have k3 := st3.tupK rmY
    obtain ⟨d3, nD3⟩ := st3.1 D _ dY nDY
    cases b with
    | false =>
      simp only [Bool.false_eq_true, if_false] at w3 ⊢
      exact ⟨hlt, acc, xs, M3, (rl.keep kY).keep k3, rm3, (st.trans stY).trans st3, d3, nD3, (pd.keep kY).keep k3, w3⟩
    | true =>
      simp only [if_true] at w3 ⊢
      refine ⟨σ3', M3, _, ⟨rl3, rm3⟩, w3, fun x4 M4 v4 H4 rl4 rm4 st4 rd4 w4 => ?_⟩
      obtain ⟨d4, nD4⟩ := st4.1 D _ d3 nD3
      obtain ⟨hlen, w5⟩ := w4
      have k4 := st4.tupK rm3
      have pd5 : RDs (ct X ca) H4 acc xs := ((pd.keep kY).keep k3).keep k4
      have kN : TupK H4 (upd H4 D (.lst (xs ++ [v4]))) := tupK_set d4 (fun xs e => nomatch e) fun ob z e => nomatch e
      refine ⟨xs, d4, by rw [← pd5.length]; exact hlen, hlt, acc ++ [x4], xs ++ [v4], M4, (((rl.keep kY).keep k3).keep k4).keep kN, fun b o hb => ?_, ⟨fun b o h1 h2 => ?_, fun b o u h1 => ?_⟩, upd_same, nD4, (pd5.append (RDs.mk1 rd4)).keep kN, w5⟩
      · obtain ⟨u, hu, ro⟩ := rm4 b o hb
        have ne : b ≠ D := by rintro rfl; rw [nD4] at hb; cases hb
        exact ⟨u, by rw [upd_ne ne]; exact hu, ro.keep kN⟩
      · have z := (((st.trans stY).trans st3).trans st4).1 b o h1 h2
        have ne : b ≠ D := by rintro rfl; rw [hD] at h1; cases h1
        exact ⟨by rw [upd_ne ne]; exact z.1, z.2⟩
      · have z := (((st.trans stY).trans st3).trans st4).2 b o u h1
        have ne : b ≠ D := by rintro rfl; rw [hD] at h1; cases h1
        rw [upd_ne ne]; exact z
  · have ei : i = ds.length := by omega
    subst ei
    rw [List.drop_length] at w
    obtain ⟨g, w⟩ := w
    exact .inl ⟨(hr Hc M' kc rm g).2, hQ D Hc ⟨acc, xs, M', fin, rl, rm, st1.trans st, st01.trans st, hD0, hcD, nD, pd, hf, w⟩⟩
/-- [x for target in iter if ..] -/
theorem s_comp {X3 : Xp} {ex tg iter : Expr} {ifs : List Expr} {scope : Scope} {pos : Pos} {ie : E} {t : Tg} {k : ItK} {es : Es} {ic : T} (own : List (Str × Nat)) (ok : Ok3 ca X P cc) (bok : BlkOk X.N X.env.scope scope own) (hsl : ∀ i ∈ t.sl, i ∈ own.map (·.2)) (hi : SndI ca X M0 P tg iter k es) (hs : ∀ x, foldedSetIterable iter X.env x = pure x)
    (hg : ∀ (s : Shared) (H : Hp) (C : Addr) (cl : List (Str × Addr)) (fp : List Addr), SndTg ca (X.blk s H scope (compEnvC scope cl C X.env) fp) MAll tg t)
    (ht : ∀ (s : Shared) (H : Hp) (C : Addr) (cl : List (Str × Addr)) (fp : List Addr), PTs (X.blk s H scope (compEnvC scope cl C X.env) fp) ifs (ttB (ct X ca) P ic))
    (he : ∀ (s : Shared) (H : Hp) (C : Addr) (cl : List (Str × Addr)) (fp : List Addr), SndE ca (X.blk s H scope (compEnvC scope cl C X.env) fp) MAll P (fun _ _ => False) ex ie) :
    SndE ca X M0 P X3 (.ListComp ex [⟨tg, iter, ifs, 0⟩] scope pos) (.comp (own.map (·.2)) ie t k es ic) := by
  intro pins s σ H σ3 M Q I hw
  let Qd : VK := fun v H' => ∃ D, v = .ref D ∧ LcEnd ca X M0 σ H σ3 M Q D H'
  have run := (pe_lc (te := teB (ct X ca) P ie) (tt := ttB (ct X ca) P ic) (g := tgB (ct X ca) t) (wi := tiB ca X M0 P X3 k es) (pos := pos) ok.hc ok.nd (pi_B hi) bok (fun s H C cl fp => pg_B (hg s H C cl fp)) ht (fun s H C cl fp => pe_B (he s H C cl fp)) hs).run pins s σ H Qd I.inv (lc_tr _ hsl I hw fun D H' q => ⟨D, rfl, q⟩)
  refine thn run fun u s' ⟨v, H', J, rv, D, ev, q⟩ => ?_
  subst ev
  obtain ⟨M2, H2, I2, st2, q2⟩ := lc_end I q J q.choose_spec.choose_spec.choose_spec.choose_spec.1
  exact ⟨.ref D, _, .ref D, H2, I2, rv, rfl, st2, q2⟩
/-- {k: v for target in iter if ..} -/
theorem s_dcomp {X3 : Xp} {kx vx tg iter : Expr} {ifs : List Expr} {scope : Scope} {pos : Pos} {ik iv : E} {t : Tg} {k : ItK} {es : Es} {ic : T} (own : List (Str × Nat)) (ok : Ok3 ca X P cc) (bok : BlkOk X.N X.env.scope scope own) (hsl : ∀ i ∈ t.sl, i ∈ own.map (·.2)) (hi : SndI ca X M0 P tg iter k es) (hs : ∀ x, foldedSetIterable iter X.env x = pure x)
    (hg : ∀ (s : Shared) (H : Hp) (C : Addr) (cl : List (Str × Addr)) (fp : List Addr), SndTg ca (X.blk s H scope (compEnvC scope cl C X.env) fp) MAll tg t)
    (ht : ∀ (s : Shared) (H : Hp) (C : Addr) (cl : List (Str × Addr)) (fp : List Addr), PTs (X.blk s H scope (compEnvC scope cl C X.env) fp) ifs (ttB (ct X ca) P ic))
    (hk : ∀ (s : Shared) (H : Hp) (C : Addr) (cl : List (Str × Addr)) (fp : List Addr), SndE ca (X.blk s H scope (compEnvC scope cl C X.env) fp) MAll P (fun _ _ => False) kx ik)
    (hv : ∀ (s : Shared) (H : Hp) (C : Addr) (cl : List (Str × Addr)) (fp : List Addr), SndE ca (X.blk s H scope (compEnvC scope cl C X.env) fp) MAll P (fun _ _ => False) vx iv) :
    SndE ca X M0 P X3 (.DictComp kx vx [⟨tg, iter, ifs, 0⟩] scope pos) (.dcomp (own.map (·.2)) ik iv t k es ic) := by
  intro pins s σ H σ3 M Q I hw
  let Qd : VK := fun v H' => ∃ D acc kvs M' fin, v = .ref D ∧ RL (ct X ca) H' σ3 σ ∧ RM (ct X ca) H' M' ∧ Stp H M H' M' ∧ Stp X.H_0 M0 H' M' ∧ (∀ o, H D = some o → M D = none → False) ∧ H' D = some (.dK kvs) ∧ M' D = none ∧ PD (ct X ca) H' acc kvs ∧ FinOk ca X fin H ∧ wpNew (fin M') (.dct acc) Q
  have run := (pe_dc (tk := teB (ct X ca) P ik) (tv := teB (ct X ca) P iv) (tt := ttB (ct X ca) P ic) (g := tgB (ct X ca) t) (wi := tiB ca X M0 P X3 k es) (pos := pos) ok.hc ok.nd (pi_B hi) bok (fun s H C cl fp => pg_B (hg s H C cl fp)) ht (fun s H C cl fp => pe_B (hk s H C cl fp)) (fun s H C cl fp => pe_B (hv s H C cl fp)) hs).run pins s σ H Qd I.inv ?_
  · refine thn run fun u s' ⟨v, H', J, rv, D, acc, kvs, M', fin, ev, rl, rm, st, st0, hD0, hD, hDM, pd, ⟨fn, hf⟩, q⟩ => ?_
    subst ev
    -- the new dict is told
    have rm2 : RM (ct X ca) H' (mset M' D (.dct acc)) := fun b m hb => by
      by_cases h : b = D
      · subst h
        rw [mset_same] at hb
        cases hb
        exact ⟨_, hD, kvs, rfl, pd⟩
      · rw [mset_ne h] at hb
        exact rm b m hb
    have up : ∀ {Ha : Hp} {Ma : Mp}, Stp Ha Ma H' M' → (∀ o, Ha D = some o → Ma D = none → False) → Stp Ha Ma H' (mset M' D (.dct acc)) := fun {Ha Ma} z hn => ⟨fun b o h1 h2 => by
      obtain ⟨g1, g2⟩ := z.1 b o h1 h2
      have ne : b ≠ D := by rintro rfl; exact hn o h1 h2
      exact ⟨g1, by rw [mset_ne ne]; exact g2⟩, z.2⟩
    have n0 : ∀ o, X.H_0 D = some o → M0 D = none → False := fun o h1 h2 => by
      obtain ⟨g1, g2⟩ := I.st.1 D o h1 h2
      exact hD0 o g1 g2
    have I2 : I3 (ct X ca) X M0 pins σ3 (mset M' D (.dct acc)) σ H' s' := ⟨J, rl, rm2, up st0 n0⟩
    obtain ⟨H'', I3', k1, k2, k3⟩ := hf M0 pins σ3 _ σ H' s' I2 (st.tupK I.hp)
    obtain ⟨e1, e2⟩ := fn M' D (.dct acc) hDM trivial
    rw [e1] at I3' k3
    refine ⟨.ref D, _, .ref D, H'', I3', rv, rfl, ⟨fun b o h1 h2 => ?_, k1.2⟩, q D e2⟩
    obtain ⟨g1, g2⟩ := st.1 b o h1 h2
    have ne : b ≠ D := by rintro rfl; exact hD0 o h1 h2
    have := k3 b o g1 (by rw [mset_ne ne]; exact g2)
    exact this
  · refine ⟨σ3, M, _, ⟨I.lo, I.hp, I.st⟩, hw, fun J H1 M1 ds G fin rl1 rm1 st01 st1 hr hf w D hD => ?_⟩
    have hD0 : ∀ o, H D = some o → M D = none → False := fun o h1 h2 => by
      have := (st1.1 D o h1 h2).1
      rw [hD] at this
      cases this
    have nM : M1 D = none := rm1.free hD
    have k1 : TupK H1 (upd H1 D (.dK [])) := tupK_new hD
    let body : L3.D → Mp → (Option (L3.D × L3.D) → Mp → Prop) → Prop := fun x M kk => wpTg t x (wipeL (own.map (·.2)) σ3) M fun σ1 => wpT P (fun _ _ => False) ic σ1 M fun r M3 => if r = true then wpE P (fun _ _ => False) ik σ1 M3 fun d M4 => wpE P (fun _ _ => False) iv σ1 M4 fun d' M5 => kk (some (d, d')) M5 else kk none M3
    let fn : List (L3.D × L3.D) → Mp → Prop := fun acc M5 => wpNew (fin M5) (.dct acc) Q
    let St : Nat → Hp → Prop := fun i Hc => i ≤ ds.length ∧ ∃ acc kvs M', RL (ct X ca) Hc σ3 σ ∧ RM (ct X ca) Hc M' ∧ Stp H1 M1 Hc M' ∧ Hc D = some (.dK kvs) ∧ M' D = none ∧ PD (ct X ca) Hc acc kvs ∧ dcompL body G (ds.drop i) acc M' fn
    refine ⟨fun i m Hc => m = ds.length - i ∧ St i Hc, ⟨ds.length, rfl, Nat.zero_le _, [], [], M1, rl1.keep k1, rm1.new0 hD, upd_stp hD, upd_same, nM, .nil, w⟩, ?_⟩
    rintro i m Hc ⟨rfl, hi, acc, kvs, M', rl, rm, st, hcD, nD, pd, w⟩
    have kc := st.tupK rm1
    by_cases hlt : i < ds.length
    · rw [List.drop_eq_getElem_cons hlt] at w
      obtain ⟨g, w⟩ := w
      obtain ⟨go, yl⟩ := (hr Hc M' kc rm g).1 i ds[i] (List.getElem?_eq_getElem hlt)
      refine .inr ⟨go, St (i + 1), fun H' n => ⟨ds.length - (i + 1), by omega, rfl, n⟩, fun x H' y => ?_⟩
      obtain ⟨rmY, stY, rdY⟩ := yl x H' y
      have kY := stY.tupK rm
      obtain ⟨dY, nDY⟩ := stY.1 D _ hcD nD
      refine ⟨wipeL (own.map (·.2)) σ3, M', ds[i], _, ⟨rl_wipe (rl.keep kY) _, rmY, rdY⟩, w, fun σ3' σ2 rl2 hj hl w2 => ⟨?_, ?_⟩⟩
      · rw [wipe_eq (σ := wipe σ (own.map (·.2))) (fun j hj2 => hj j fun z => hj2 (hsl j z)) hl, wipe_wipe]
      refine ⟨σ3', M', _, ⟨rl2, rmY⟩, w2, fun b M3 H3 rl3 rm3 st3 w3 => ?_⟩
      have k3 := st3.tupK rmY
      obtain ⟨d3, nD3⟩ := st3.1 D _ dY nDY
      cases b with
      | false =>
        simp only [Bool.false_eq_true, if_false] at w3 ⊢
        exact ⟨hlt, acc, kvs, M3, (rl.keep kY).keep k3, rm3, (st.trans stY).trans st3, d3, nD3, PD.keep k3 (PD.keep kY pd), w3⟩
      | true =>
        simp only [if_true] at w3 ⊢
        refine ⟨σ3', M3, _, ⟨rl3, rm3⟩, w3, fun x4 M4 v4 H4 rl4 rm4 st4 rd4 w4 => ⟨σ3', M4, _, ⟨rl4, rm4⟩, w4, fun x5 M5 v5 H5 rl5 rm5 st5 rd5 w5 => ?_⟩⟩
        obtain ⟨d4, nD4⟩ := st4.1 D _ d3 nD3
        obtain ⟨d5, nD5⟩ := st5.1 D _ d4 nD4
        obtain ⟨⟨hk, hlen⟩, w5⟩ := w5
        obtain ⟨kk, rfl, kr⟩ := key_rd rd4 hk
        have k4 := st4.tupK rm3
        have k5 := st5.tupK rm4
        have pd5 : PD (ct X ca) H5 acc kvs := PD.keep k5 (PD.keep k4 (PD.keep k3 (PD.keep kY pd)))
        have kN : TupK H5 (upd H5 D (.dK (putK kvs kk v5))) := tupK_set d5 (fun xs e => nomatch e) fun ob z e => nomatch e
        refine ⟨kvs, kk, rfl, d5, by rw [← pd5.len]; exact hlen, hlt, dput acc x4 x5, putK kvs kk v5, M5, ((((rl.keep kY).keep k3).keep k4).keep k5).keep kN, fun b o hb => ?_, ⟨fun b o h1 h2 => ?_, fun b o u h1 => ?_⟩, upd_same, nD5, PD.keep kN (pd_put kr rd5 pd5), w5⟩
        · obtain ⟨u, hu, ro⟩ := rm5 b o hb
          have ne : b ≠ D := by rintro rfl; rw [nD5] at hb; cases hb
          exact ⟨u, by rw [upd_ne ne]; exact hu, ro.keep kN⟩
        · have z := ((((st.trans stY).trans st3).trans st4).trans st5).1 b o h1 h2
          have ne : b ≠ D := by rintro rfl; rw [hD] at h1; cases h1
          exact ⟨by rw [upd_ne ne]; exact z.1, z.2⟩
        · have z := ((((st.trans stY).trans st3).trans st4).trans st5).2 b o u h1
          have ne : b ≠ D := by rintro rfl; rw [hD] at h1; cases h1
          rw [upd_ne ne]; exact z
    · have ei : i = ds.length := by omega
      subst ei
      rw [List.drop_length] at w
      obtain ⟨g, w⟩ := w
      exact .inl ⟨(hr Hc M' kc rm g).2, D, acc, kvs, M', fin, rfl, rl, rm, st1.trans st, st01.trans st, hD0, hcD, nD, pd, hf, w⟩
end
end L3
end
section
set_option autoImplicit false
set_option linter.all false
set_option maxRecDepth 100000
/-! L3: list(d.items()), sorted(d.items()), displays -/
namespace L3
open PySem L2 PyProof.Rows

section
variable {ca : Nat → Addr} {X : Cx} {M0 M : Mp} {pins : List (Addr × Obj)} {σ3 : Lo} {σ : L2.St} {H : Hp} {s : Shared} {P : Pr} {cc : CC} {X3 : Xp}
theorem rds_of {C : Ct} {H : Hp} : ∀ {ds : List D} {xs : List V}, ds.length = xs.length → (∀ (i : Nat) (d : D) (x : V), ds[i]? = some d → xs[i]? = some x → RD C H d x) → RDs C H ds xs
  | [], [], _, _ => rfl
  | d :: ds, x :: xs, hl, h => ⟨x, xs, rfl, h 0 d x rfl rfl, rds_of (by simpa using hl) fun i d' x' e1 e2 => h (i + 1) d' x' (by simpa using e1) (by simpa using e2)⟩
  | [], _ :: _, hl, _ => by simp at hl
  | _ :: _, [], hl, _ => by simp at hl
/-- the pairs that were made are tracked -/
theorem track {H1 : Hp} {kvs : List (D × D)} {es : Array DictEntry} {h' : Heap} {tk : Nat} {as : List Addr} (I : I3 (ct X ca) X M0 pins σ3 M σ H s) (J : Inv X pins σ H1 { s with heap := h', toks := tk }) (hs : ∀ b o, H b = some o → H1 b = some o) (n1 : ∀ a ∈ as, H1 a = none)
    (hl : as.length = es.size) (G : DT.Made es s.heap.objs.size h' as) (er : EntRel (ct X ca) H kvs es) :
    ∃ H2, Inv X pins σ H2 { s with heap := h', toks := tk } ∧ (∀ b o, H1 b = some o → H2 b = some o) ∧ RDs (ct X ca) H2 (kvs.map pairD) (as.map V.ref) := by
  obtain ⟨H2, I2, g, qt⟩ := DX.takeT (P := fun b vs => ∃ (j : Nat) (en : DictEntry) (x1 x2 : V), as[j]? = some b ∧ es[j]? = some en ∧ L2.RelV x1 en.key ∧ L2.RelV x2 en.val ∧ vs = [x1, x2]) I.inv as H1 J (List.Pairwise.imp (fun h => Nat.ne_of_lt h) G.rise) fun b hb => by
    obtain ⟨j, hj⟩ := List.mem_iff_getElem?.mp hb
    obtain ⟨en, he, hg⟩ := G.pairs j b hj
    obtain ⟨x1, x2, r1, r2⟩ := er.all j en he
    exact ⟨Nat.le_of_lt (G.above b hb), n1 b hb, [x1, x2], ⟨j, en, x1, x2, hj, he, r1, r2, rfl⟩, fun H3 => ⟨by show 2 ≤ sizeLine; decide, [en.key, en.val], .cons r1 (.cons r2 .nil), ⟨_, hg, rfl, _, rfl⟩⟩⟩
  have gr : ∀ b o, H b = some o → H2 b = some o := fun b o e => g b o (hs b o e)
  have kk : TupK H H2 := ⟨fun a xs e => gr _ _ e, fun a ob u e => gr _ _ e⟩
  refine ⟨H2, I2, g, rds_of (by rw [List.length_map, List.length_map, hl]; exact er.1.symm) fun i d x e1 e2 => ?_⟩
  rw [List.getElem?_map] at e1 e2
  cases q1 : kvs[i]? with
  | none => rw [q1] at e1; cases e1
  | some p =>
    cases q2 : as[i]? with
    | none => rw [q2] at e2; cases e2
    | some b =>
      rw [q1] at e1
      rw [q2] at e2
      cases e1
      cases e2
      obtain ⟨en, y1, y2, a1, a2, a3, a4, a5⟩ := er.2 i p q1
      obtain ⟨vs, ⟨j, en', x1, x2, b1, b2, b3, b4, rfl⟩, hH⟩ := qt b (List.mem_of_getElem? q2)
      have nd : as.Nodup := List.Pairwise.imp (fun h => Nat.ne_of_lt h) G.rise
      have eij : i = j := (List.getElem?_inj (List.getElem?_eq_some_iff.mp q2).1 nd).mp (q2.trans b1.symm)
      subst eij
      rw [a1] at b2
      cases b2
      rw [relV_inj b3 a2, relV_inj b4 a3] at hH
      exact ⟨b, [y1, y2], rfl, .inl hH, _, _, rfl, a4.keep kk, _, _, rfl, a5.keep kk, rfl⟩
/-- o.items() as a value: a view -/
theorem ev_items {o : Expr} {ap cp : Pos} {io : E} {Z : List (D × D) → Mp → Prop} {R : Value → Shared → Prop} (hn : noSuper o = true) (hl : (ap.endLine == cp.line) = true) (ho : SndE ca X M0 P X3 o io) (I : I3 (ct X ca) X M0 pins σ3 M σ H s)
    (hw : wpE P X3 io σ3 M fun x M1 => ∃ a kvs, x = .ref a ∧ (M1 a = some (.dct kvs) ∨ M1 a = some (.dcT kvs)) ∧ Z kvs M1)
    (fin : ∀ (s1 : Shared) (H1 : Hp) (M1 : Mp) (a r : Addr) (kvs : List (D × D)) (es : Array DictEntry) (ep : Nat), I3 (ct X ca) X M0 pins σ3 M1 σ H1 s1 → Stp H M H1 M1 → s1.heap.IsItemsView r a → DT.Raw s1.heap a es ep → kvs.length ≤ sizeLine → EntRel (ct X ca) H1 kvs es → Z kvs M1 → R (.ref r) s1) :
    wpAny (model X.prog X.w) X.A (eval (.Call (.Attribute o "items" ap) [] [] cp) X.env) R X.xe s := by
  refine wpAny_Call_method (T := "dict") (id := "dict.items") (noSuper_ok hn) rfl hl PySem.F.plainAttrs_dict PySem.F.slot_dict_items PySem.F.type_dict_items (thn (ho pins s σ H σ3 M _ I hw) fun u s1 ⟨x, M1, v, H1, I1, rv, rd, st, a, kvs, ex, g, z⟩ => ?_)
  subst ex
  have e : v = .ref a := rd
  subst e
  cases rv
  obtain ⟨hs, hz, ob, es, ep, hob, hx, hd, er⟩ := I1.ents g
  refine ⟨⟨ob, hob, hx.1⟩, fun b q => by cases q; exact ⟨ob, hob, hx.2.1⟩, ?_⟩
  have I2 : I3 (ct X ca) X M0 pins σ3 M1 σ H1 { s1 with heap := s1.heap.push { cls := .type "dict_items", data := .fields #[.ref a] } } := I1.same (I1.inv.kept (t' := s1.toks) fun b ob q => Heap.get?_push_of_some _ q)
  have hob2 := Heap.get?_push_of_some { cls := .type "dict_items", data := .fields #[.ref a] } hob
  show wpAny _ _ (callWith cp (.builtin "dict.items") [.ref a] [] []) _ X.xe s1
  exact method_meetsIn PySem.F.slot_dict_items PySem.F.entry_dict_items rfl (PySem.evalArgs_none ⟨rfl, ⟨ob, hob, hx.1⟩, PySem.F.args_dict_items_1 _, _, DT.meetsItems (es := es) (ep := ep) hs, ⟨⟨ob, hob, hx, hd⟩, fin _ H1 M1 a s1.heap.objs.size kvs es ep I2 st ⟨_, Heap.get?_push_size _ rfl, rfl, rfl⟩ ⟨ob, hob2, hx, hd⟩ hz er z⟩⟩)
theorem list_items {A : Around} {E : Value → Shared → Prop} {r d : Addr} {es : Array DictEntry} {ep : Nat} {prog : Program} {w : World} {Q : Value → Shared → Prop} (hh : A.handled = none) (hv : s.heap.IsItemsView r d) (hm : DT.Raw s.heap d es ep) (hn : es.size ≤ sizeLine)
    (hQ : ∀ h' tk acc c as, (∀ b o, s.heap.get? b = some o → h'.get? b = some o) → h'.get? s.heap.objs.size = some { cls := .type "list", dict := none, data := .seq acc c, slots := #[] } → as.length = es.size → DT.Made es s.heap.objs.size h' as → acc.toList = as.map Value.ref → Q (.ref s.heap.objs.size) { s with heap := h', toks := tk }) :
    wpAny (model prog w) A (call (.type "list") [.ref r]) Q E s := by
  have hr : r < s.heap.objs.size := let ⟨_, ho, _⟩ := hv; Heap.lt_size ho
  have hd : d < s.heap.objs.size := hm.lt
  refine callType_codes (Q₁ := fun obj s₁ => obj = .ref s.heap.objs.size ∧ s₁ = { s with heap := s.heap.push { cls := .type "list", data := .seq #[] } }) PySem.F.called_list (PySem.F.typeCall_list_1 _) PySem.F.entry_list_init
    (code_list_new _ ⟨rfl, rfl⟩) fun obj s₁ h₁ => ?_
  obtain ⟨rfl, rfl⟩ := h₁
  have hS : (s.heap.push { cls := .type "list", data := .seq #[] }).get? s.heap.objs.size = some { cls := .type "list", data := .seq #[] } := Heap.get?_push_size _ rfl
  refine ⟨⟨_, hS, rfl⟩, PySem.F.args_list_init_2 _ _, ?_⟩
  show wpAny _ _ (do let old ← Builtin.List.listItems (.ref s.heap.objs.size); Builtin.List.listUpdate (.ref s.heap.objs.size) (fun _ => #[]); letGo old.toList.reverse; Builtin.List.listExtendWith (.ref s.heap.objs.size) (.ref r) .none) _ _ _
  refine wpAny_bind ?_
  unfold Builtin.List.listItems
  refine wpAny_bind (wpAny_seqItems hS rfl (wpAny_pure ?_))
  show wpAny _ _ (updateSeq s.heap.objs.size (fun _ => #[]) >>= fun _ => letGo (#[] : Array Value).toList.reverse >>= fun _ => Builtin.List.listExtendWith (.ref s.heap.objs.size) (.ref r) .none) _ _ _
  refine wpAny_bind (wpAny_updateSeq hS rfl ?_)
  have hS₂ := Heap.get?_update_self (Obj.mapSeq (fun _ => (#[] : Array Value))) hS rfl
  have oth : ∀ b o, b ≠ s.heap.objs.size → (s.heap.push { cls := .type "list", data := .seq #[] }).get? b = some o → ((s.heap.push { cls := .type "list", data := .seq #[] }).update s.heap.objs.size (Obj.mapSeq (fun _ => (#[] : Array Value)))).get? b = some o :=
    fun b o hb e => (Heap.get?_update_other _ _ (Ne.symm hb)).trans e
  have old : ∀ b o, s.heap.get? b = some o → ((s.heap.push { cls := .type "list", data := .seq #[] }).update s.heap.objs.size (Obj.mapSeq (fun _ => (#[] : Array Value)))).get? b = some o := fun b o e => oth b o (Nat.ne_of_lt (Heap.lt_size e)) (Heap.get?_push_of_some _ e)
  refine wpAny_bind (wpAny_letGo ?_)
  have lo : s.heap.objs.size ≤ ((s.heap.push { cls := .type "list", data := .seq #[] }).update s.heap.objs.size (Obj.mapSeq (fun _ => (#[] : Array Value)))).objs.size := by
    rw [Heap.size_update, Heap.size_push]; exact Nat.le_succ _
  refine DT.extI (A := A.in1) (es := es) (ep := ep) hh (let ⟨o, ho, x⟩ := hv; ⟨o, old _ _ ho, x⟩) (hm.at' fun o e => old _ _ e) _ (Nat.ne_of_gt hr) (Nat.ne_of_lt hd) .none _ hS₂ (fun h' tk acc' c' as hk hS' hl hG hacc => ?_) hn
  exact ⟨rfl, hQ h' tk acc' c' as (fun b o e => hk b o (Nat.ne_of_lt (Heap.lt_size e)) (old _ _ e)) hS' hl (hG.low lo) hacc⟩
/-- what list, sorted of items ask -/
theorem seq_items {f : SeqF} {x : D} {Q : Post} (h : wpSeq f .items [x] M Q) : ∃ a kvs, x = .ref a ∧ (M a = some (.dct kvs) ∨ M a = some (.dcT kvs)) ∧ ((f = .list ∧ wpNew M (.lst (kvs.map pairD)) Q) ∨ (f = .sorted ∧ PairsOk kvs ∧ wpNew M (.lst ((srtP kvs).map pairD)) Q)) := by
  cases x with
  | ref a =>
    cases g : M a with
    | none => cases f <;> simp only [wpSeq, g] at h
    | some o =>
      cases o with
      | dct kvs =>
        cases f with
        | list => simp only [wpSeq, g] at h; exact ⟨a, kvs, rfl, .inl g, .inl ⟨rfl, h⟩⟩
        | sorted => simp only [wpSeq, g] at h; exact ⟨a, kvs, rfl, .inl g, .inr ⟨rfl, h⟩⟩
        | _ => simp only [wpSeq, g] at h
      | dcT kvs =>
        cases f with
        | list => simp only [wpSeq, g] at h; exact ⟨a, kvs, rfl, .inr g, .inl ⟨rfl, h⟩⟩
        | sorted => simp only [wpSeq, g] at h; exact ⟨a, kvs, rfl, .inr g, .inr ⟨rfl, h⟩⟩
        | _ => simp only [wpSeq, g] at h
      | _ => cases f <;> simp only [wpSeq, g] at h
  | _ => cases f <;> exact h.elim
theorem wpE_mono' {io : E} {Z Z' : Post} (h : wpE P X3 io σ3 M Z) (e : ∀ x M1, Z x M1 ↔ Z' x M1) : wpE P X3 io σ3 M Z' := by
  have : Z = Z' := by funext x M1; exact propext (e x M1)
  rw [← this]; exact h
theorem s_listItems {o : Expr} {ap cp p pos : Pos} {io : E} (ok : Ok3 ca X P cc) (hf : cc.glob "list" = some .blt) (hn : noSuper o = true) (hl : (ap.endLine == cp.line) = true) (ho : SndE ca X M0 P X3 o io) :
    SndE ca X M0 P X3 (.Call (.Name "list" p) [.Call (.Attribute o "items" ap) [] [] cp] [] pos) (.seq .list .items (.cons io .nil)) := by
  intro pins s σ H σ3 M Q I hw
  obtain ⟨hg, hl2, hd, hn2⟩ := glob_ok ok hf
  have hw1 : wpE P X3 io σ3 M fun x M1 => wpSeq .list .items [x] M1 Q := hw
  have hw2 : wpE P X3 io σ3 M fun x M1 => ∃ a kvs, x = .ref a ∧ (M1 a = some (.dct kvs) ∨ M1 a = some (.dcT kvs)) ∧ wpNew M1 (.lst (kvs.map pairD)) Q := wpE_mono' hw1 fun x M1 => by
    constructor
    · intro h
      obtain ⟨a, kvs, e, g, z⟩ := seq_items h
      rcases z with ⟨_, z⟩ | ⟨z, _⟩
      · exact ⟨a, kvs, e, g, z⟩
      · cases z
    · rintro ⟨a, kvs, e, g, z⟩
      subst e
      rcases g with g | g <;> (simp only [wpSeq, g]; exact z)
  refine wpAny_Call_Name_kw (ld_blt I.inv hg (ok.g.blt _ hl2) (show bootBuiltins "list" = some (.type "list") by decide +kernel) ?_ hn2 hd)
  refine callWith_type1 ?_ (star_ok rfl) rfl
  rw [star_ok (show notStar (.Call (.Attribute o "items" ap) [] [] cp) = true from rfl)]
  show wpAny _ _ (spliced ((false, eval (.Call (.Attribute o "items" ap) [] [] cp) X.env) :: [])) _ _ s
  refine Calls.spliced_cons (ev_items (Z := fun kvs M1 => wpNew M1 (.lst (kvs.map pairD)) Q) hn hl ho I hw2 fun s1 H1 M1 a r kvs es ep I1 st hv hm hz er z => Calls.spliced_nil ?_)
  refine list_items (I1.inv.ok.hd ok.hc) hv hm (by rw [er.1]; exact hz) fun h' tk acc c as kp hS hla G hacc => ?_
  have n0 : H1 s1.heap.objs.size = none := I1.inv.hok.fresh (Nat.le_refl _)
  have rvA : Vals (as.map V.ref) acc.toList := by rw [hacc]; exact L2.vals_refs as
  have J1 : Inv X pins σ (upd H1 s1.heap.objs.size (.lst (as.map V.ref))) { s1 with heap := h', toks := tk } :=
    I1.inv.laid (t' := tk) kp (Nat.le_refl _) ⟨by rw [List.length_map, hla, er.1]; exact hz, acc.toList, c, rvA, by rw [Array.toArray_toList]; exact hS⟩
  obtain ⟨H2, J2, g2, rds⟩ := track I1 J1 (fun b o e => by rw [upd_ne (ne_of_none e n0)]; exact e) (fun b hb => by
    rw [upd_ne (Nat.ne_of_gt (G.above b hb))]
    exact I1.inv.hok.fresh (Nat.le_of_lt (G.above b hb))) hla G er
  have gr : ∀ b o, H1 b = some o → H2 b = some o := fun b o e => g2 b o (by rw [upd_ne (ne_of_none e n0)]; exact e)
  have kk : TupK H1 H2 := ⟨fun a xs e => gr _ _ e, fun a ob u e => gr _ _ e⟩
  have nM : M1 s1.heap.objs.size = none := I1.hp.free n0
  have rm : RM (ct X ca) H2 (mset M1 s1.heap.objs.size (.lst (kvs.map pairD))) := fun b m e => by
    by_cases hb : b = s1.heap.objs.size
    · subst hb
      rw [mset_same] at e
      cases e
      exact ⟨_, g2 _ _ upd_same, rds⟩
    · rw [mset_ne hb] at e
      obtain ⟨u, hu, ro⟩ := I1.hp b m e
      exact ⟨u, gr _ _ hu, ro.keep kk⟩
  have st2 : Stp H1 M1 H2 (mset M1 s1.heap.objs.size (.lst (kvs.map pairD))) := ⟨fun b u e n => ⟨gr _ _ e, by rw [mset_ne (ne_of_none e n0)]; exact n⟩, fun b ob u e => gr _ _ e⟩
  exact ⟨.ref s1.heap.objs.size, _, .ref s1.heap.objs.size, H2, I1.to J2 rm st2, rfl, rfl, st.trans st2, z _ nM⟩
theorem s_sortedItems {o : Expr} {ap cp p pos : Pos} {io : E} (ok : Ok3 ca X P cc) (hf : cc.glob "sorted" = some .blt) (hn : noSuper o = true) (hl : (ap.endLine == cp.line) = true) (ho : SndE ca X M0 P X3 o io) :
    SndE ca X M0 P X3 (.Call (.Name "sorted" p) [.Call (.Attribute o "items" ap) [] [] cp] [] pos) (.seq .sorted .items (.cons io .nil)) := by
  intro pins s σ H σ3 M Q I hw
  obtain ⟨hg, hl2, hd, hn2⟩ := glob_ok ok hf
  have hw1 : wpE P X3 io σ3 M fun x M1 => wpSeq .sorted .items [x] M1 Q := hw
  have hw2 : wpE P X3 io σ3 M fun x M1 => ∃ a kvs, x = .ref a ∧ (M1 a = some (.dct kvs) ∨ M1 a = some (.dcT kvs)) ∧ (PairsOk kvs ∧ wpNew M1 (.lst ((srtP kvs).map pairD)) Q) := wpE_mono' hw1 fun x M1 => by
    constructor
    · intro h
      obtain ⟨a, kvs, e, g, z⟩ := seq_items h
      rcases z with ⟨z, _⟩ | ⟨_, z⟩
      · cases z
      · exact ⟨a, kvs, e, g, z⟩
    · rintro ⟨a, kvs, e, g, z⟩
      subst e
      rcases g with g | g <;> (simp only [wpSeq, g]; exact z)
  have hu := ok.hu
  refine wpAny_Call_Name_kw (ld_blt I.inv hg (ok.g.blt _ hl2) (show bootBuiltins "sorted" = some (.builtin "sorted") by decide +kernel) ?_ hn2 hd)
  refine callWith_builtin1 ?_ (star_ok rfl) rfl
  rw [star_ok (show notStar (.Call (.Attribute o "items" ap) [] [] cp) = true from rfl)]
  show wpAny _ _ (spliced ((false, eval (.Call (.Attribute o "items" ap) [] [] cp) X.env) :: [])) _ _ s
  refine Calls.spliced_cons (ev_items (Z := fun kvs M1 => PairsOk kvs ∧ wpNew M1 (.lst ((srtP kvs).map pairD)) Q) hn hl ho I hw2 fun s1 H1 M1 a r kvs es ep I1 st hv hm hz er ⟨zo, z⟩ => Calls.spliced_nil ?_)
  refine DT.sortedI (es := es) (ep := ep) (I1.inv.ok.hd ok.hc) hv hm (by rw [er.1]; exact hz) fun h' tk as kp hlt hla G => ?_
  have J1 : Inv X pins σ H1 { s1 with heap := h', toks := tk } := I1.inv.kept (t' := tk) kp
  obtain ⟨H2, J2, g2, rds⟩ := track I1 J1 (fun b o e => e) (fun b hb => I1.inv.hok.fresh (Nat.le_of_lt (G.above b hb))) hla G er
  have kk : TupK H1 H2 := ⟨fun a xs e => g2 _ _ e, fun a ob u e => g2 _ _ e⟩
  have rm : RM (ct X ca) H2 M1 := fun b m e => by
    obtain ⟨u, hu, ro⟩ := I1.hp b m e
    exact ⟨u, g2 _ _ hu, ro.keep kk⟩
  have st2 : Stp H1 M1 H2 M1 := ⟨fun b u e n => ⟨g2 _ _ e, n⟩, fun b ob u e => g2 _ _ e⟩
  have I2 : I3 (ct X ca) X M0 pins σ3 M1 σ H2 { s1 with heap := h', toks := tk } := I1.to J2 rm st2
  exact thn (sort_pairs (A := X.A.in1) (E := X.xe) ok.sy (by show X.A.units + 1 + 40 < cLine; omega) I2 (L2.vals_refs as) rds (by rw [List.length_map, hla, er.1]; exact hz) zo z) fun _ _ e => ep_st (st.trans st2) e
/-! ### enumerate -/
theorem it_enum {a : Addr} {ds : List D} {H0 : Hp} : ItRel (ct X ca) (Ite X.K a) (enumD ds) (fun M' => M' a = some (.lst ds)) H0 := by
  intro H M k r g
  obtain ⟨xs, hx, rs⟩ := r.lst g
  have hl := rs.length
  have ln : (enumD ds).length = ds.length := by unfold enumD; simp
  refine ⟨fun i d e => ?_, ⟨xs, SqL.of hx, by rw [ln]; omega⟩⟩
  unfold enumD at e
  rw [List.getElem?_map] at e
  cases q : ds.zipIdx[i]? with
  | none => rw [q] at e; cases e
  | some z =>
    rw [q] at e
    cases e
    rw [List.getElem?_zipIdx] at q
    cases q3 : ds[i]? with
    | none => rw [q3] at q; cases q
    | some y =>
      rw [q3] at q
      cases q
      obtain ⟨x, e1, r1⟩ := rs.get q3
      refine ⟨⟨xs, x, SqL.of hx, e1⟩, fun w H' ⟨T, xv, ew, hT, eH, hq⟩ => ?_⟩
      subst ew eH
      have hq' := hq xs (SqL.of hx)
      rw [e1] at hq'
      cases hq'
      exact ⟨r.new0 hT, upd_stp hT, T, _, rfl, .inl upd_same, _, _, rfl, (show V.int ((i : Nat) : Int) = V.int ((0 + i : Nat) : Int) by rw [Nat.zero_add]), _, _, rfl, r1.keep (tupK_new hT), rfl⟩
theorem i_enum {a : Expr} {ie : E} {p pos tpos : Pos} {elts : List Expr} {kk : Nat} (hg : Gl X "enumerate") (hm : X.mg "enumerate" = none) (hn : notStar a = true) (ha : SndEsx ca X M0 P [a] (.cons ie .nil)) : SndI ca X M0 P (.Tuple elts kk tpos) (.Call (.Name "enumerate" p) [a] [] pos) .enumerate (.cons ie .nil) := by
  intro X3 pins s σ H σ3 M R I hw
  have hs : starEach [a] X.env = [(false, eval a X.env)] := by rw [star_ok hn]; rfl
  refine thn ((pi_enum hg hm (pa_of (ha X3)) hs).run pins s σ H _ I.inv ⟨σ3, M, _, ⟨I.lo, I.hp, I.st⟩, one_arg hw, fun vs H' ⟨ds, M', r, st, rd, ⟨d, e, q⟩⟩ => ?_⟩) fun v s1 h1 => thn h1 fun itv s2 h2 => it3_of I h2
  subst e
  obtain ⟨y, l, rfl, r1, r2⟩ := rd
  rw [show l = [] from r2]
  cases d with
  | ref a =>
    rw [show y = .ref a from r1]
    cases g : M' a with
    | none => simp only [wpIt, g] at q
    | some o =>
      cases o with
      | lst ds =>
        simp only [wpIt, g] at q
        obtain ⟨xs, hx, rs⟩ := r.lst g
        exact ⟨a, xs, rfl, SqL.of hx, M', enumD ds, fun M' => M' a = some (.lst ds), id, r, st, it_enum, finId, q⟩
      | _ => simp only [wpIt, g] at q
  | _ => exact q.elim
end
end L3
end
section
set_option autoImplicit false
set_option linter.all false
set_option maxRecDepth 100000
/-! L3: dict displays with written texts as keys -/
namespace L3
open PySem L2 PyProof.Rows

section
variable {prog : Program} {w : World} {A : Around} {E : Value → Shared → Prop} {s : Shared}
/-- the display's road: up to 32 pairs -/
theorem forIn_short (f : (Option (Sem Value) × Sem Value) → (Option Addr × List (Sem Value × Sem Value)) → Sem (ForInStep (Option Addr × List (Sem Value × Sem Value)))) (main : Option Addr)
    (hf : ∀ (p : Sem Value × Sem Value) (run : List (Sem Value × Sem Value)), run.length + 1 < 17 → f (some p.1, p.2) (main, run) = pure (.yield (main, run ++ [p]))) :
    ∀ (items run : List (Sem Value × Sem Value)), run.length + items.length < 17 → forIn (items.map fun p => (some p.1, p.2)) (main, run) f = pure (main, run ++ items)
  | [], run, _ => by simp
  | p :: rest, run, h => by
    rw [List.map_cons, List.forIn_cons, hf p run (by simp at h; omega), pure_bind]
    have := forIn_short f main hf rest (run ++ [p]) (by simp at h ⊢; omega)
    simpa using this
theorem forIn_long (f : (Option (Sem Value) × Sem Value) → (Option Addr × List (Sem Value × Sem Value)) → Sem (ForInStep (Option Addr × List (Sem Value × Sem Value))))
    (hf : ∀ (m : Option Addr) (p : Sem Value × Sem Value) (run : List (Sem Value × Sem Value)), run.length + 1 < 17 → f (some p.1, p.2) (m, run) = pure (.yield (m, run ++ [p])))
    (hf2 : ∀ (p : Sem Value × Sem Value) (run : List (Sem Value × Sem Value)), run.length + 1 = 17 → f (some p.1, p.2) (none, run) = (do let d ← subDict (run ++ [p]); pure (.yield (some d, []))))
    (l2 : List (Sem Value × Sem Value)) (h2 : l2.length < 17) : ∀ (l1 run : List (Sem Value × Sem Value)), run.length + l1.length = 17 → 0 < l1.length → forIn ((l1 ++ l2).map fun p => (some p.1, p.2)) ((none : Option Addr), run) f = (do let d ← subDict (run ++ l1); pure (some d, l2))
  | [], run, _, h0 => by simp at h0
  | p :: rest, run, h, _ => by
    rw [List.cons_append, List.map_cons, List.forIn_cons]
    by_cases hr : rest = []
    · subst hr
      rw [hf2 p run (by simpa using h)]
      simp only [bind_assoc, pure_bind, List.nil_append]
      congr 1
      funext d
      have := forIn_short f (some d) (hf (some d)) l2 [] (by simpa using h2)
      simpa using this
    · have hl : 0 < rest.length := List.length_pos_iff.mpr hr
      rw [hf none p run (by simp at h; omega), pure_bind]
      have := forIn_long f hf hf2 l2 h2 rest (run ++ [p]) (by simp at h ⊢; omega) hl
      simpa using this
theorem dictDisplay_long (l1 l2 : List (Sem Value × Sem Value)) (h1 : l1.length = 17) (h2 : l2.length < 17) (h0 : l2 ≠ []) :
    dictDisplay ((l1 ++ l2).map fun p => (some p.1, p.2)) = (do
      let d ← subDict l1
      let sub ← holding [.ref d] (subDict l2)
      (holding [.ref d, .ref sub] (mergeMapping d (.ref sub) false)).onRaise fun x => do let _ ← holding [.ref d, x] (runValue (.builtin "proto.let_go" {}))
      pure (.ref d)) := by
  unfold dictDisplay
  dsimp only
  rw [forIn_long _ (fun m p run h => by
    have hne : ((run ++ [(p.1, p.2)]).length == 17) = false := by simp; omega
    simp only [hne, Bool.false_eq_true, if_false]) (fun p run h => by
    have hne : ((run ++ [(p.1, p.2)]).length == 17) = true := by simp; omega
    simp only [hne, if_true]
    simp) l2 h2 l1 [] (by simpa using h1) (by omega)]
  simp [h0]

variable {K : Type} [DecidableEq K] {knd : PySem.KeyKind prog w K}
theorem dictPut_pairs {d : Addr} {kvs : List (K × Value)} {k : K} {key v : Value} {Q : Unit → Shared → Prop} (hkey : knd.is k key = true) (hm : s.heap.DictOf knd d kvs) (hnot : k ∉ kvs.map (·.1))
    (hQ : ∀ h', h'.DictOf knd d (kvs ++ [(k, v)]) → Heap.SameBut d s.heap h' → Q () { s with heap := h' })
    (hsz : kvs.length ≤ sizeLine) :
    wpAny (model prog w) A (dictPut d (knd.hash k) key v) Q E s := by
  obtain ⟨o, es, ep, ho, hc, hd, hk, hp, hn⟩ := hm
  have hes : es.size ≤ sizeLine := by have e1 := hp.length; have e2 : es.toList.length = es.size := by simp
                                      omega
  unfold dictPut
  refine wpAny_bind (wpAny_dictFind_of hkey ho hd hk ?_)
  have hidx : (es.findIdx? fun e => knd.is k e.key) = kvs.findIdx? fun kv => decide (kv.1 = k) := by
    rw [← hp.findIdx k]; obtain ⟨l⟩ := es; simp
  cases hi : es.findIdx? fun e => knd.is k e.key with
  | some i =>
    exfalso
    have := any_of_findIdx_some (hidx ▸ hi)
    rw [List.any_eq_true] at this
    obtain ⟨kv, hkv, he⟩ := this
    exact hnot (List.mem_map.mpr ⟨kv, hkv, of_decide_eq_true he⟩)
  | none =>
    refine wpAny_updateDictKeys (hz := hes) ho hd (hQ _ ⟨_, _, ep + 1, Heap.get?_update_self _ ho (Obj.isFreed_of_dict (Obj.data_mapDictKeys hd _)),
      hc.mapDictKeys _, Obj.data_mapDictKeys hd _, hk.push hkey _, ?_, ?_⟩ (Heap.SameBut.update ..))
    · have := hp.append hkey (knd.hash k) v
      obtain ⟨l⟩ := es
      simpa using this
    · rw [List.map_append, List.nodup_append]
      refine ⟨hn, by simp, ?_⟩
      intro a ha b hb
      simp only [List.map_cons, List.map_nil, List.mem_singleton] at hb
      subst hb
      exact fun e => hnot (e ▸ ha)
theorem pairs_at : ∀ {es : List DictEntry} {ms : List (K × Value)} {i : Nat} {en : DictEntry} {kv : K × Value}, Pairs knd es ms → es[i]? = some en → ms[i]? = some kv → knd.is kv.1 en.key = true ∧ en.val = kv.2
  | _, _, 0, _, _, .cons h1 h2 _, e1, e2 => by cases e1; cases e2; exact ⟨h1, h2⟩
  | _, _, i + 1, _, _, .cons _ _ t, e1, e2 => pairs_at t (i := i) (by simpa using e1) (by simpa using e2)
  | _, _, _, _, _, .nil, e1, _ => by simp at e1
/-- sub's pairs behind d's: none of the same key -/
theorem merge_pairs {d a : Addr} {kvs ms : List (K × Value)} {Q : Unit → Shared → Prop} (hda : d ≠ a) (ha : (a == sysModules) = false) (hd : s.heap.DictOf knd d kvs) (hm : s.heap.DictOf knd a ms) (h0 : kvs ≠ []) (hz : kvs.length + ms.length ≤ sizeLine)
    (hn : ((kvs ++ ms).map (·.1)).Nodup) (hQ : ∀ h', h'.DictOf knd d (kvs ++ ms) → Heap.SameBut d s.heap h' → Q () { s with heap := h' }) : wpAny (model prog w) A (mergeMapping d (.ref a) false) Q E s := by
  obtain ⟨oa, esa, epa, hoa, hca, hda', hka, hpa, hna⟩ := id hm
  obtain ⟨od, esd, epd, hod, hcd, hdd, hkd, hpd, hnd⟩ := id hd
  unfold mergeMapping
  have b1 : (some (Value.builtin "dict.__iter__") == some (Value.builtin "dict.__iter__")) = true := by decide
  refine wpAny_bind (wpAny_isInstance hm.typeIs isSubtype_dict_dict ?_)
  rw [if_pos (rfl : true = true)]
  refine wpAny_bind (wpAny_specialOf (name := Str.ofString "__iter__") hm.typeIs PySem.F.slot_dict_iter.lookup ?_)
  rw [b1]
  refine wpAny_bind (wpAny_pure ?_)
  dsimp only
  rw [if_neg (by rw [ha]; exact Bool.false_ne_true)]
  refine wpAny_bind (wpAny_dictEntries hod hdd ?_)
  have e0 : esd.isEmpty = false := by
    have l1 : esd.toList.length = kvs.length := hpd.length
    have : esd.isEmpty = decide (esd.size = 0) := rfl
    rw [this]
    have l2 : esd.toList.length = esd.size := Array.length_toList
    have l3 : 0 < kvs.length := List.length_pos_iff.mpr h0
    rw [decide_eq_false_iff_not]; omega
  rw [if_neg (by rw [e0]; exact Bool.false_ne_true)]
  refine wpAny_bind (wpAny_dictEntries hoa hda' ?_)
  refine wpAny_bind (wpAny_dictEpoch hoa hda' ?_)
  have lm : esa.size = ms.length := by rw [← hpa.length, Array.length_toList]
  have key : ∀ (n i : Nat) (s' : Shared), i + n = esa.size → s'.heap.get? a = some oa → s'.heap.DictOf knd d (kvs ++ ms.take i) → Heap.SameBut d s.heap s'.heap → s' = { s with heap := s'.heap } →
      wpAny (model prog w) A (forIn (List.range' i n) PUnit.unit fun i (_ : PUnit) => do
        let __do_lift ← dictEntries a
        match __do_lift[i]? with
          | some e => do
            holding [e.key, e.val] (dictPut d e.hash e.key e.val)
            let __do_lift ← dictEpoch a
            if (__do_lift != epa) = true then do
                unsupported "dict.changed-during-merge"
                pure (ForInStep.yield PUnit.unit)
              else pure (ForInStep.yield PUnit.unit)
          | x => do
            unsupported "dict.changed-during-merge"
            pure (ForInStep.yield PUnit.unit)) (fun _ s'' => wpAny (model prog w) A (pure ()) Q E s'') E s' := by
    intro n
    induction n with
    | zero =>
      intro i s' hi h1 h2 h3 h4
      have : ms.take i = ms := List.take_of_length_le (by omega)
      rw [this] at h2
      rw [List.range'_zero, List.forIn_nil]
      refine wpAny_pure (wpAny_pure ?_)
      rw [h4]
      exact hQ _ h2 h3
    | succ n ih =>
      intro i s' hi h1 h2 h3 h4
      rw [List.range'_succ, List.forIn_cons]
      have hlt : i < esa.size := by omega
      have hlm : i < ms.length := by omega
      refine wpAny_bind (wpAny_bind (wpAny_dictEntries h1 hda' ?_))
      rw [Array.getElem?_eq_getElem hlt]
      dsimp only
      obtain ⟨hh, hk1, hk2⟩ : (esa[i]).hash = knd.hash (ms[i]).1 ∧ knd.is (ms[i]).1 (esa[i]).key = true ∧ (esa[i]).val = (ms[i]).2 := by
        obtain ⟨g1, g2⟩ := pairs_at hpa (i := i) (en := esa[i]) (kv := ms[i]) (by rw [Array.getElem?_toList]; exact Array.getElem?_eq_getElem hlt) (List.getElem?_eq_getElem hlm)
        obtain ⟨k, q1, q2⟩ := hka _ (Array.getElem_mem hlt)
        rw [knd.inj _ _ _ q1 g1] at q2
        exact ⟨q2, g1, g2⟩
      have hnk : (ms[i]).1 ∉ (kvs ++ ms.take i).map (·.1) := by
        have hn2 : ((kvs ++ ms.take i ++ ms.drop i).map (·.1)).Nodup := by rw [List.append_assoc, List.take_append_drop]; exact hn
        rw [List.map_append, List.nodup_append] at hn2
        intro hc
        refine hn2.2.2 _ hc (ms[i]).1 ?_ rfl
        rw [List.drop_eq_getElem_cons hlm]
        exact List.mem_cons_self
      rw [hh]
      refine wpAny_bind (wpAny_holding (dictPut_pairs hk1 h2 hnk (fun h' d1 d2 => ?_) (by rw [List.length_append, List.length_take]; omega)))
      have h5 : h'.get? a = some oa := (d2.2 a (Ne.symm hda)).trans h1
      refine wpAny_bind (wpAny_dictEpoch (s := { s' with heap := h' }) h5 hda' ?_)
      have e1 : (epa != epa) = false := by simp
      simp only [e1, Bool.false_eq_true, if_false]
      refine wpAny_pure ?_
      dsimp only
      refine ih (i + 1) _ (by omega) h5 ?_ ⟨d2.1.trans h3.1, fun b hb => (d2.2 b hb).trans (h3.2 b hb)⟩ (by rw [h4])
      · rw [List.take_succ, List.getElem?_eq_getElem hlm, ← List.append_assoc]
        rw [hk2] at d1
        exact d1
  rw [List.range_eq_range']
  exact wpAny_bind (key esa.size 0 s (by omega) hoa (by simpa using hd) ⟨rfl, fun _ _ => rfl⟩ rfl)
end

section
variable {ca : Nat → Addr} {X : Cx} {M0 M : Mp} {pins : List (Addr × Obj)} {σ3 : Lo} {σ : L2.St} {H : Hp} {s : Shared} {P : Pr} {cc : CC} {X3 : Xp}
/-- a display's pairs come -/
inductive SndPs (ca : Nat → Addr) (X : Cx) (M0 : Mp) (P : Pr) (X3 : Xp) : List (Option Expr) → List Expr → Es → Prop where
  | nil : SndPs ca X M0 P X3 [] [] .nil
  | cons {x : Str} {j : Nat} {p : Pos} {v : Expr} {iv : E} {ks : List (Option Expr)} {vs : List Expr} {es : Es} : SndE ca X M0 P X3 v iv → SndPs ca X M0 P X3 ks vs es → SndPs ca X M0 P X3 (some (.Constant (.str x) j p) :: ks) (v :: vs) (.cons (.str x) (.cons iv es))
inductive TPs (ca : Nat → Addr) (X : Cx) (M0 : Mp) (P : Pr) (X3 : Xp) : List (Sem Value × Sem Value) → List Str → Es → Prop where
  | nil : TPs ca X M0 P X3 [] [] .nil
  | cons {x : Str} {j : Nat} {p pos : Pos} {v : Expr} {iv : E} {ps : List (Sem Value × Sem Value)} {xs : List Str} {es : Es} : SndE ca X M0 P X3 v iv → TPs ca X M0 P X3 ps xs es → TPs ca X M0 P X3 ((eval (.Constant (.str x) j p) X.env, do let y ← eval v X.env; standAt pos; pure y) :: ps) (x :: xs) (.cons (.str x) (.cons iv es))
theorem SndPs.tps (pos : Pos) : ∀ {ks : List (Option Expr)} {vs : List Expr} {es : Es}, SndPs ca X M0 P X3 ks vs es → TPs ca X M0 P X3 (pairTrees ks vs X.env pos) (keyTxts ks) es ∧ ks.all (·.isSome) = true ∧ ks.length = vs.length
  | _, _, _, .nil => ⟨.nil, rfl, rfl⟩
  | _, _, _, .cons h t => ⟨.cons h (t.tps pos).1, by have := (t.tps pos).2.1; simpa using this, by have := (t.tps pos).2.2; simpa using this⟩
def flatP (kvs : List (D × D)) : List D := kvs.flatMap fun p => [p.1, p.2]
theorem pairs_flat : ∀ (kvs : List (D × D)), pairsD (flatP kvs) = some kvs
  | [] => rfl
  | (k, v) :: r => by
    show (pairsD (flatP r)).map ((k, v) :: ·) = _
    rw [pairs_flat r]
    rfl
/-- the dict at d is being built: Hb, Mb are from ahead of it -/
structure Bld (ca : Nat → Addr) (X : Cx) (M0 : Mp) (pins : List (Addr × Obj)) (σ3 : Lo) (σ : L2.St) (Hb : Hp) (Mb : Mp) (ds : List Addr) (M : Mp) (H : Hp) (s : Shared) : Prop where
  I : I3 (ct X ca) X M0 pins σ3 M σ H s
  st : Stp Hb Mb H M
  nb : ∀ d ∈ ds, Hb d = none
  n0 : ∀ d ∈ ds, ∀ o, X.H_0 d = some o → M0 d = none → False
  nf : ∀ d ∈ ds, ∀ o u, X.H_0 d ≠ some (.frz o u)
  nM : ∀ d ∈ ds, M d = none
/-- what is at d -/
def DAt (C : Ct) (H : Hp) (d : Addr) (acc : List (D × D)) : Prop := ∃ ks, H d = some (.dK ks) ∧ PD C H acc ks
variable {Hb : Hp} {Mb : Mp} {ds : List Addr}
theorem DAt.keep {C : Ct} {H H' : Hp} {M M' : Mp} {d : Addr} {acc : List (D × D)} (r : RM C H M) (h : DAt C H d acc) (n : M d = none) (st : Stp H M H' M') : DAt C H' d acc := by
  obtain ⟨ks, e, pd⟩ := h
  exact ⟨ks, (st.1 d _ e n).1, PD.keep (st.tupK r) pd⟩
/-- from one state to the next -/
theorem Bld.to (b : Bld ca X M0 pins σ3 σ Hb Mb ds M H s) {M' : Mp} {H' : Hp} {s' : Shared} (I' : I3 (ct X ca) X M0 pins σ3 M' σ H' s') (st : Stp H M H' M') (ht : ∀ d ∈ ds, ∃ o, H d = some o) : Bld ca X M0 pins σ3 σ Hb Mb ds M' H' s' :=
  ⟨I', b.st.trans st, b.nb, b.n0, b.nf, fun d hd => by obtain ⟨o, e⟩ := ht d hd; exact (st.1 d o e (b.nM d hd)).2⟩
/-- the dict is written -/
theorem Bld.wr (b : Bld ca X M0 pins σ3 σ Hb Mb ds M H s) {d : Addr} (hd : d ∈ ds) {ks ks' : List (Key × V)} (e : H d = some (.dK ks)) {s' : Shared} (J : Inv X pins σ (upd H d (.dK ks')) s') : Bld ca X M0 pins σ3 σ Hb Mb ds M (upd H d (.dK ks')) s' := by
  have kw : TupK H (upd H d (.dK ks')) := tupK_set e (fun _ z => nomatch z) (fun _ _ z => nomatch z)
  refine ⟨⟨J, b.I.lo.keep kw, fun a m h => ?_, fun a o h n => ?_, fun a ob u h => ?_⟩, ⟨fun a o h n => ?_, fun a ob u h => ?_⟩, b.nb, b.n0, b.nf, b.nM⟩
  · have ne : a ≠ d := by rintro rfl; rw [b.nM _ hd] at h; cases h
    obtain ⟨u, hu, ro⟩ := b.I.hp a m h
    exact ⟨u, by rw [upd_ne ne]; exact hu, ro.keep kw⟩
  · have ne : a ≠ d := by rintro rfl; exact b.n0 _ hd o h n
    obtain ⟨g1, g2⟩ := b.I.st.1 a o h n
    exact ⟨by rw [upd_ne ne]; exact g1, g2⟩
  · have ne : a ≠ d := by rintro rfl; exact b.nf _ hd _ _ h
    rw [upd_ne ne]; exact b.I.st.2 a ob u h
  · have ne : a ≠ d := by rintro rfl; rw [b.nb _ hd] at h; cases h
    obtain ⟨g1, g2⟩ := b.st.1 a o h n
    exact ⟨by rw [upd_ne ne]; exact g1, g2⟩
  · have ne : a ≠ d := by rintro rfl; rw [b.nb _ hd] at h; cases h
    rw [upd_ne ne]; exact b.st.2 a ob u h
theorem DAt.other {C : Ct} {d d' : Addr} {acc : List (D × D)} {ks ks' : List (Key × V)} (h : DAt C H d' acc) (e : H d = some (.dK ks)) (ne : d' ≠ d) : DAt C (upd H d (.dK ks')) d' acc := by
  have kw : TupK H (upd H d (.dK ks')) := tupK_set e (fun _ z => nomatch z) (fun _ _ z => nomatch z)
  obtain ⟨ks2, e2, pd⟩ := h
  exact ⟨ks2, by rw [upd_ne ne]; exact e2, PD.keep kw pd⟩
theorem keys_no {C : Ct} : ∀ {acc : List (D × D)} {ks : List (Key × V)} {x : Str}, PD C H acc ks → (∀ p ∈ acc, p.1 ≠ D.str x) → valV ks (Sum.inr x) = none
  | _, _, _, .nil, _ => rfl
  | _, _, x, .cons (a := p) (b := q) h t, hn => by
    have ne : q.1 ≠ Sum.inr x := fun e => by
      have h1 := h.1
      rw [e] at h1
      have hp := hn p List.mem_cons_self
      cases hpk : p.1 with
      | str z =>
        rw [hpk] at h1
        have : z = x := h1
        subst this
        exact hp hpk
      | int i => rw [hpk] at h1; exact h1.elim
      | _ => rw [hpk] at h1; exact h1.elim
    rw [valV_neg ne]
    exact keys_no t fun p hp => hn p (List.mem_cons_of_mem _ hp)
/-- one pair is put at the end -/
theorem put_one {d : Addr} {acc : List (D × D)} {x : Str} {y : D} {yv : V} {u ku : Value} {Q : Unit → Shared → Prop} (b : Bld ca X M0 pins σ3 σ Hb Mb ds M H s) (hd : d ∈ ds) (at_ : DAt (ct X ca) H d acc) (hn : ∀ p ∈ acc, p.1 ≠ D.str x) (hl : acc.length < 100) (ry : RD (ct X ca) H y yv) (ru : RelV yv u) (hk : RelV (.str x) ku)
    (h : ∀ H' s', Bld ca X M0 pins σ3 σ Hb Mb ds M H' s' → DAt (ct X ca) H' d (acc ++ [(D.str x, y)]) → (∀ d' acc', d' ≠ d → DAt (ct X ca) H d' acc' → DAt (ct X ca) H' d' acc') → Q () s') {A : Around} {E : Value → Shared → Prop} : wpAny (model X.prog X.w) A (dictSet d ku u) Q E s := by
  obtain ⟨ks, e, pd⟩ := at_
  obtain ⟨z, hs, vs, rel, dd⟩ := dk_of b.I.inv.hok e
  have l1 : acc.length = ks.length := pd.len
  have l2 : ks.length = vs.length := rel.length
  have hk2 : (mixKind X.prog X.w).is (Sum.inr x) ku = true := kV_is (show RelV (kV (Sum.inr x)) ku from hk)
  refine wpAny_dictSet_pairs (hsz := by rw [sizeLine_eq]; omega) hk2 dd fun h' dd' sb => ?_
  have hnone := keys_no pd hn
  have pe : putK ks (Sum.inr x) yv = ks ++ [(Sum.inr x, yv)] := putK_new yv hnone
  have he : ∃ q, h'.get? d = some q := let ⟨q, _, _, hq, _⟩ := dd'; ⟨q, hq⟩
  have J : Inv X pins σ (upd H d (.dK (putK ks (Sum.inr x) yv))) { s with heap := h', toks := s.toks + 1 } :=
    d_write b.I.inv (by rw [e]; exact True.intro) sb he (dk_new (by have := length_putK ks (Sum.inr x) yv; rw [sizeLine_eq]; omega) hs (rel.put (Sum.inr x) ru) dd')
  have kw : TupK H (upd H d (.dK (putK ks (Sum.inr x) yv))) := tupK_set e (fun _ z => nomatch z) (fun _ _ z => nomatch z)
  rw [pe] at J kw
  refine h _ _ (b.wr hd e J) ⟨_, upd_same, ?_⟩ fun d' acc' ne hh => hh.other e ne
  exact PD.keep kw (pd_app pd (Paired.cons (a := (D.str x, y)) (b := ((Sum.inr x : Key), yv)) ⟨(show KRel (D.str x) (Sum.inr x) from rfl), ry⟩ .nil))
/-- the pairs of a long display -/
theorem run_long {A : Around} (hA : A = X.A) {d : Addr} : ∀ (ps1 : List (Sem Value × Sem Value)) {ps2 : List (Sem Value × Sem Value)} {xs : List Str} {es : Es} {M : Mp} {H : Hp} {s : Shared} {acc : List (D × D)} {Q : List D → Mp → Prop}, TPs ca X M0 P X3 (ps1 ++ ps2) xs es → Bld ca X M0 pins σ3 σ Hb Mb [d] M H s → DAt (ct X ca) H d acc →
    xs.Nodup → (∀ p ∈ acc, ∀ x ∈ xs, p.1 ≠ D.str x) → acc.length + xs.length ≤ 60 → wpEs P X3 es σ3 M Q →
    wpAny (model X.prog X.w) A (forIn ps1 PUnit.unit fun (x : Sem Value × Sem Value) (_ : PUnit) => match x with | (k, v) => do
        let kv ← k
        let vv ← holding [kv] v
        holding [kv, vv] (dictSet d kv vv)
        pure (ForInStep.yield PUnit.unit)) (fun _ s' => ∃ xs2 es2 done M' H', TPs ca X M0 P X3 ps2 xs2 es2 ∧ Bld ca X M0 pins σ3 σ Hb Mb [d] M' H' s' ∧ DAt (ct X ca) H' d (acc ++ done) ∧ xs2.Nodup ∧ (∀ p ∈ acc ++ done, ∀ x ∈ xs2, p.1 ≠ D.str x) ∧ (acc ++ done).length + xs2.length ≤ 60 ∧ done.length = ps1.length ∧
      wpEs P X3 es2 σ3 M' fun ds M2 => Q (flatP done ++ ds) M2) X.xe s
  | [], ps2, xs, es, M, H, s, acc, Q, tp, b, at_, nd, hn, hl, hw => by
    rw [List.forIn_nil]
    refine wpAny_pure ⟨xs, es, [], M, H, tp, b, by simpa using at_, nd, by simpa using hn, by simpa using hl, rfl, hw⟩
  | p :: ps1, ps2, xs, es, M, H, s, acc, Q, tp, b, at_, nd, hn, hl, hw => by
    subst hA
    rw [List.cons_append] at tp
    cases tp with
    | @cons x j pp pos v iv _ xs es hv t =>
      rw [List.forIn_cons]
      dsimp only
      rw [List.nodup_cons] at nd
      refine wpAny_bind (wpAny_bind (thn (s_str (M0 := M0) (P := P) (X3 := X3) pins s σ H σ3 M (fun d M1 => d = .str x ∧ M1 = M) b.I ⟨rfl, rfl⟩) fun kv s1 ⟨dk, M1, kvv, H1, I1, rk, rdk, st1, e1, e2⟩ => ?_))
      subst e1 e2
      have ek : kvv = .str x := rdk
      subst ek
      have there : ∀ d' ∈ [d], ∃ o, H d' = some o := fun d' hd' => by
        rw [List.mem_singleton] at hd'; subst hd'
        obtain ⟨ks, e, _⟩ := at_
        exact ⟨_, e⟩
      have b1 := b.to I1 st1 there
      have at1 := at_.keep b.I.hp (b.nM d (List.mem_singleton.mpr rfl)) st1
      have there1 : ∀ d' ∈ [d], ∃ o, H1 d' = some o := fun d' hd' => by
        rw [List.mem_singleton] at hd'; subst hd'
        obtain ⟨ks, e, _⟩ := at1
        exact ⟨_, e⟩
      have hw' : wpE P X3 iv σ3 M1 fun y M2 => wpEs P X3 es σ3 M2 fun ds M3 => Q (.str x :: y :: ds) M3 := hw
      refine wpAny_bind (wpAny_holding (wpAny_bind (thn (hv pins s1 σ H1 σ3 M1 _ I1 hw') fun vv s2 ⟨y, M2, yv, H2, I2, r2, rd2, st2, hw2⟩ => wpAny_bind (wpAny_standAt (wpAny_pure ?_)))))
      have b2 := b1.to I2 st2 there1
      have at2 := at1.keep I1.hp (b1.nM d (List.mem_singleton.mpr rfl)) st2
      refine wpAny_bind (wpAny_holding (put_one b2 (List.mem_singleton.mpr rfl) at2 (fun p hp => hn p hp x List.mem_cons_self) (by simp at hl; omega) rd2 r2 rk fun H3 s3 b3 at3 _ => ?_))
      refine wpAny_pure ?_
      dsimp only
      refine thn (run_long rfl ps1 t b3 at3 nd.2 (fun p hp z hz => ?_) (by simp at hl ⊢; omega) hw2) fun _ s4 ⟨xs2, es2, done, M4, H4, t4, b4, at4, n4, hn4, hl4, ld, w4⟩ => ?_
      · rcases List.mem_append.mp hp with hp | hp
        · exact hn p hp z (List.mem_cons_of_mem _ hz)
        · rw [List.mem_singleton] at hp
          subst hp
          intro e
          cases e
          exact nd.1 hz
      · refine ⟨xs2, es2, (D.str x, y) :: done, M4, H4, t4, b4, ?_, n4, ?_, ?_, by rw [List.length_cons, List.length_cons, ld], w4⟩
        · rw [List.append_assoc] at at4
          exact at4
        · rw [List.append_assoc] at hn4
          exact hn4
        · rw [List.append_assoc] at hl4
          exact hl4

/-- what a short display's pairs are -/
def strK (done : List (D × D)) (vs : List V) : List (Key × V) := (done.zip vs).map fun p => ((match p.1.1 with | .str x => Sum.inr x | _ => Sum.inl 0), p.2)
theorem run_short {A : Around} (hA : A = X.A) : ∀ {ps : List (Sem Value × Sem Value)} {xs : List Str} {es : Es} {M : Mp} {H : Hp} {s : Shared} {Q : List D → Mp → Prop} {Z : List (Value × Value) → Shared → Prop}, TPs ca X M0 P X3 ps xs es → Bld ca X M0 pins σ3 σ Hb Mb ds M H s → (∀ d ∈ ds, ∃ o, H d = some o) → wpEs P X3 es σ3 M Q →
    (∀ (ws : List (Value × Value)) (s' : Shared) (done : List (D × D)) (vs : List V) (M' : Mp) (H' : Hp), Bld ca X M0 pins σ3 σ Hb Mb ds M' H' s' → Stp H M H' M' → done.map (·.1) = xs.map D.str → RDs (ct X ca) H' (done.map (·.2)) vs → VV (((xs.zip vs).map fun p => ((Sum.inr p.1 : Key), p.2)).map fun kv => (kV kv.1, kv.2)) ws → Q (flatP done) M' → Z ws s') →
    wpAny (model X.prog X.w) X.A (evalPairs ps) Z X.xe s
  | _, _, _, M, H, s, Q, Z, .nil, b, ht, hw, z => evalPairs_nil (z [] s [] [] M H b Stp.refl rfl rfl .nil hw)
  | _, _, _, M, H, s, Q, Z, .cons (x := x) (v := v) (iv := iv) (es := es) hv t, b, ht, hw, z => by
    subst hA
    refine evalPairs_cons (thn (s_str (M0 := M0) (P := P) (X3 := X3) pins s σ H σ3 M (fun d M1 => d = .str x ∧ M1 = M) b.I ⟨rfl, rfl⟩) fun kv s1 ⟨dk, M1, kvv, H1, I1, rk, rdk, st1, e1, e2⟩ => ?_)
    subst e1 e2
    have ek : kvv = .str x := rdk
    subst ek
    have b1 := b.to I1 st1 ht
    have ht1 : ∀ d ∈ ds, ∃ o, H1 d = some o := fun d hd => by
      obtain ⟨o, e⟩ := ht d hd
      exact ⟨o, (st1.1 d o e (b.nM d hd)).1⟩
    have hw' : wpE P X3 iv σ3 M1 fun y M2 => wpEs P X3 es σ3 M2 fun ds M3 => Q (.str x :: y :: ds) M3 := hw
    refine wpAny_bind (thn (hv pins s1 σ H1 σ3 M1 _ I1 hw') fun vv s2 ⟨y, M2, yv, H2, I2, r2, rd2, st2, hw2⟩ => wpAny_bind (wpAny_standAt (wpAny_pure ?_)))
    have b2 := b1.to I2 st2 ht1
    have ht2 : ∀ d ∈ ds, ∃ o, H2 d = some o := fun d hd => by
      obtain ⟨o, e⟩ := ht1 d hd
      exact ⟨o, (st2.1 d o e (b1.nM d hd)).1⟩
    refine run_short rfl t b2 ht2 hw2 fun ws s3 done vs M3 H3 b3 st3 h1 h2 h3 q => ?_
    refine z _ s3 ((D.str x, y) :: done) (yv :: vs) M3 H3 b3 ((st1.trans st2).trans st3) ?_ ⟨yv, vs, rfl, rd2.keep (st3.tupK I2.hp), h2⟩ (.cons ⟨rk, r2⟩ h3) q
    show D.str x :: done.map (·.1) = D.str x :: _
    rw [h1]
theorem zip_strK {C : Ct} : ∀ {done : List (D × D)} {xs : List Str} {vs : List V}, done.map (·.1) = xs.map D.str → RDs C H (done.map (·.2)) vs → PD C H done ((xs.zip vs).map fun p => ((Sum.inr p.1 : Key), p.2))
  | [], [], vs, _, _ => .nil
  | (a, b) :: done, x :: xs, vs, h, r => by
    obtain ⟨v, l, rfl, r1, r2⟩ := r
    have h' : a :: done.map (·.1) = D.str x :: xs.map D.str := h
    injection h' with h1 h2
    subst h1
    exact .cons ⟨(show KRel (D.str x) (Sum.inr x) from rfl), r1⟩ (zip_strK h2 r2)
  | [], x :: xs, vs, h, _ => by cases h
  | _ :: _, [], vs, h, _ => by cases h
theorem merged_new {K : Type} [DecidableEq K] : ∀ (ms kvs : List (K × Value)), ((kvs ++ ms).map (·.1)).Nodup → merged kvs ms = kvs ++ ms
  | [], kvs, _ => by simp [merged]
  | m :: ms, kvs, h => by
    have e : stored kvs m.1 m.2 = kvs ++ [m] := by
      unfold stored
      rw [if_neg]
      intro hc
      rw [List.any_eq_true] at hc
      obtain ⟨q, hq, e⟩ := hc
      rw [List.map_append, List.nodup_append] at h
      exact h.2.2 q.1 (List.mem_map.mpr ⟨q, hq, rfl⟩) m.1 (by simp) (of_decide_eq_true e)
    show merged (stored kvs m.1 m.2) ms = _
    rw [e, merged_new ms (kvs ++ [m]) (by simpa using h)]
    simp

/-- an empty dict is laid -/
theorem bld_new (I : I3 (ct X ca) X M0 pins σ3 M σ H s) : Bld ca X M0 pins σ3 σ H M [s.heap.objs.size] M (upd H s.heap.objs.size (.dK [])) { s with heap := s.heap.push { cls := .type "dict", data := .dict #[] } } ∧ DAt (ct X ca) (upd H s.heap.objs.size (.dK [])) s.heap.objs.size [] := by
  have n1 : H s.heap.objs.size = none := I.inv.hok.fresh (Nat.le_refl _)
  have nM : M s.heap.objs.size = none := I.hp.free n1
  have J := I.inv.laid (a := s.heap.objs.size) (o := .dK []) (h' := s.heap.push { cls := .type "dict", data := .dict #[] }) (t' := s.toks) (fun _ _ q => Heap.get?_push_of_some _ q) (Nat.le_refl _) (dk_empty s.heap I.inv.big)
  have one : ∀ d ∈ [s.heap.objs.size], d = s.heap.objs.size := fun d hd => List.mem_singleton.mp hd
  refine ⟨⟨I.to J (I.hp.new0 n1) (upd_stp n1), upd_stp n1, ?_, ?_, ?_, ?_⟩, [], upd_same, .nil⟩
  · intro d hd
    rw [one d hd]; exact n1
  · intro d hd o h n
    rw [one d hd] at h n
    have := (I.st.1 _ o h n).1
    rw [n1] at this
    cases this
  · intro d hd o u h
    rw [one d hd] at h
    have := I.st.2 _ o u h
    rw [n1] at this
    cases this
  · intro d hd
    rw [one d hd]; exact nM
/-- the dict is told -/
theorem bld_end {d : Addr} {acc : List (D × D)} {Q : Post} (b : Bld ca X M0 pins σ3 σ Hb Mb [d] M H s) (at_ : DAt (ct X ca) H d acc) (q : wpNew M (.dct acc) Q) : EP3 (ct X ca) X M0 pins σ3 σ Hb Mb Q (.ref d) s := by
  have hm : d ∈ [d] := List.mem_singleton.mpr rfl
  obtain ⟨ks, e, pd⟩ := at_
  have nM := b.nM d hm
  have rm : RM (ct X ca) H (mset M d (.dct acc)) := fun a m h => by
    by_cases ha : a = d
    · subst ha
      rw [mset_same] at h
      cases h
      exact ⟨_, e, ks, rfl, pd⟩
    · rw [mset_ne ha] at h
      exact b.I.hp a m h
  have up : ∀ {Ha : Hp} {Ma : Mp}, Stp Ha Ma H M → (∀ o, Ha d = some o → Ma d = none → False) → Stp Ha Ma H (mset M d (.dct acc)) := fun {Ha Ma} z hn => ⟨fun a o h1 h2 => by
    obtain ⟨g1, g2⟩ := z.1 a o h1 h2
    have ne : a ≠ d := by rintro rfl; exact hn o h1 h2
    exact ⟨g1, by rw [mset_ne ne]; exact g2⟩, z.2⟩
  exact ⟨.ref d, _, .ref d, H, ⟨b.I.inv, b.I.lo, rm, up b.I.st (b.n0 d hm)⟩, rfl, rfl, up b.st fun o h _ => (by rw [b.nb d hm] at h; cases h), q d nM⟩
theorem kv_app : ∀ {a b : List (Key × V)} {c d : List (Key × Value)}, KV a c → KV b d → KV (a ++ b) (c ++ d)
  | _, _, _, _, .nil, h => h
  | _, _, _, _, .cons r t, h => .cons r (kv_app t h)
/-- a short dict display: the dict stands -/
theorem sub_short' {ps : List (Sem Value × Sem Value)} {xs : List Str} {es : Es} {Q : List D → Mp → Prop} {Z : Addr → Shared → Prop} (I : I3 (ct X ca) X M0 pins σ3 M σ H s) (tp : TPs ca X M0 P X3 ps xs es) (hl : ps.length ≤ 15) (hx : xs.length = ps.length) (nd : xs.Nodup) (hw : wpEs P X3 es σ3 M Q)
    (z : ∀ (d : Addr) (s' : Shared) (done : List (D × D)) (M' : Mp) (H' : Hp), Bld ca X M0 pins σ3 σ H M [d] M' H' s' → DAt (ct X ca) H' d done → done.map (·.1) = xs.map D.str → Q (flatP done) M' → Z d s') : wpAny (model X.prog X.w) X.A (subDict ps) Z X.xe s := by
  obtain ⟨b, ks0, e0, _⟩ := bld_new I
  have hm : s.heap.objs.size ∈ [s.heap.objs.size] := List.mem_singleton.mpr rfl
  refine wpAny_subDict (knd := mixKind X.prog X.w) hl (run_short rfl tp b (fun d hd => by rw [List.mem_singleton] at hd; subst hd; exact ⟨_, upd_same⟩) hw fun ws s1 done vs M1 H1 b1 st1 h1 h2 h3 q => ?_)
  have eH : H1 s.heap.objs.size = some (.dK []) := (st1.1 _ _ upd_same (b.nM _ hm)).1
  obtain ⟨rs, c, rk⟩ := carries_of (P := X.prog) (w := X.w) h3
  obtain ⟨zz, hs, vs0, r0, dd⟩ := dk_of b1.I.inv.hok eH
  cases r0
  refine ⟨rs, c, dd, fun h' dd' sb => ?_⟩
  have pd := zip_strK h1 h2
  have lr : rs.length = done.length := by rw [← rk.length, ← pd.len]
  have ld : done.length = xs.length := by have := congrArg List.length h1; simpa using this
  have hnd : (rs.map (·.1)).Nodup := by
    rw [← rk.keys, List.map_map]
    have hv : vs.length = xs.length := by
      have := h2.length
      rw [List.length_map] at this
      omega
    have e1 : (xs.zip vs).map ((fun (p : Key × V) => p.1) ∘ fun p => ((Sum.inr p.1 : Key), p.2)) = xs.map fun x => (Sum.inr x : Key) := by
      rw [show ((fun (p : Key × V) => p.1) ∘ fun (p : Str × V) => ((Sum.inr p.1 : Key), p.2)) = (fun x => (Sum.inr x : Key)) ∘ (fun (p : Str × V) => p.1) from rfl, ← List.map_map, List.map_fst_zip (by omega)]
    rw [e1]
    exact List.pairwise_map.mpr (nd.imp fun h e => h (Sum.inr.inj e))
  rw [merged_new rs [] (by simpa using hnd), List.nil_append] at dd'
  have he : ∃ q, h'.get? s.heap.objs.size = some q := let ⟨q, _, _, hq, _⟩ := dd'; ⟨q, hq⟩
  have J : Inv X pins σ (upd H1 s.heap.objs.size (.dK ((xs.zip vs).map fun p => ((Sum.inr p.1 : Key), p.2)))) { s1 with heap := h', toks := s1.toks + ws.length } :=
    d_write b1.I.inv (by rw [eH]; exact True.intro) sb he (dk_new (by rw [← pd.len, sizeLine_eq]; omega) hs rk dd')
  have kw : TupK H1 (upd H1 s.heap.objs.size (.dK ((xs.zip vs).map fun p => ((Sum.inr p.1 : Key), p.2)))) := tupK_set eH (fun _ z => nomatch z) (fun _ _ z => nomatch z)
  exact z _ _ done M1 _ (b1.wr hm eH J) ⟨_, upd_same, PD.keep kw pd⟩ h1 q
theorem disp_end {ds : List D} {kvs : List (D × D)} {Q : Post} (h : wpDisp ds M Q) (e : ds = flatP kvs) (hn : kvs ≠ []) : wpNew M (.dct kvs) Q := by
  subst e
  rcases h with ⟨h, _⟩ | ⟨kvs', e, _, q⟩
  · cases kvs with
    | nil => exact absurd rfl hn
    | cons p r => cases h
  · rw [pairs_flat] at e
    cases e
    exact q
theorem tps_len : ∀ {ps : List (Sem Value × Sem Value)} {xs : List Str} {es : Es}, TPs ca X M0 P X3 ps xs es → xs.length = ps.length
  | _, _, _, .nil => rfl
  | _, _, _, .cons _ t => by rw [List.length_cons, List.length_cons, tps_len t]
theorem s_disp {k : Option Expr} {ks : List (Option Expr)} {v : Expr} {vs : List Expr} {es : Es} {pos : Pos} (ok : Ok3 ca X P cc) (hl : ks.length = vs.length) (hN : dispN (ks.length + 1) = true) (nd : (keyTxts (k :: ks)).Nodup) (h : SndPs ca X M0 P X3 (k :: ks) (v :: vs) es) : SndE ca X M0 P X3 (.Dict (k :: ks) (v :: vs) pos) (.dct es) := by
  intro pins s σ H σ3 M Q I hw
  obtain ⟨tp, hall, hlen⟩ := h.tps pos
  have pl := pairTrees_length (k :: ks) (v :: vs) X.env pos hall hlen
  have hw' : wpEs P X3 es σ3 M fun ds M1 => wpDisp ds M1 Q := hw
  rw [arm_eval_Dict, zip_pairTrees _ _ _ _ hall hlen]
  refine wpAny_bind (wpAny_standAt ?_)
  generalize pairTrees (k :: ks) (v :: vs) X.env pos = ps at tp pl
  have hne : ps ≠ [] := by intro e; rw [e] at pl; simp at pl
  have lx := tps_len tp
  generalize hxs : keyTxts (k :: ks) = xs at tp nd lx
  unfold dispN at hN
  rw [Bool.or_eq_true, decide_eq_true_eq, Bool.and_eq_true, decide_eq_true_eq, decide_eq_true_eq] at hN
  have pl' : ps.length = ks.length + 1 := pl
  rcases hN with hN | ⟨hN1, hN2⟩
  · rw [dictDisplay_pairs ps hne (by omega)]
    refine wpAny_bind (sub_short' I tp (by omega) lx nd hw' fun d s' done M' H' b at_ h1 q => wpAny_pure ?_)
    refine bld_end b at_ (disp_end q rfl fun e => ?_)
    subst e
    have : xs.length = 0 := by have := congrArg List.length h1; simpa using this.symm
    omega
  · have hsplit : ps = ps.take 17 ++ ps.drop 17 := (List.take_append_drop 17 ps).symm
    have l1 : (ps.take 17).length = 17 := by rw [List.length_take]; omega
    have l2 : (ps.drop 17).length = ps.length - 17 := List.length_drop
    rw [hsplit] at tp ⊢
    generalize ps.take 17 = p1 at *
    generalize ps.drop 17 = p2 at *
    rw [dictDisplay_long p1 p2 l1 (by omega) (by intro e; rw [e] at l2; simp at l2; omega)]
    obtain ⟨b, at0⟩ := bld_new I
    have hm : s.heap.objs.size ∈ [s.heap.objs.size] := List.mem_singleton.mpr rfl
    refine wpAny_bind ?_
    unfold subDict
    refine wpAny_bind (wpAny_alloc ?_)
    refine wpAny_bind (wpAny_holding ?_)
    rw [if_neg (by omega)]
    refine wpAny_bind (wpAny_rule ?_)
    refine wpAny_bind (thn (run_long rfl p1 tp b at0 nd (fun p hp => nomatch hp) (by simp; omega) hw') fun _ s1 ⟨xs2, es2, done, M1, H1, t1, b1, at1, n1, hn1, hl1, ld, w1⟩ => ?_)
    rw [List.nil_append] at at1 hn1 hl1
    refine wpAny_pure (wpAny_pure ?_)
    have lx2 := tps_len t1
    refine wpAny_bind (wpAny_holding ?_)
    have sub := sub_short' (Z := fun d2 s2 => wpAny (model X.prog X.w) X.A (do
      (holding [.ref s.heap.objs.size, .ref d2] (mergeMapping s.heap.objs.size (.ref d2) false)).onRaise fun x => do let _ ← holding [.ref s.heap.objs.size, x] (runValue (.builtin "proto.let_go" {}))
      pure (Value.ref s.heap.objs.size)) (EP3 (ct X ca) X M0 pins σ3 σ H M Q) X.xe s2) b1.I t1 (by omega) lx2 n1 w1 fun d2 s2 done2 M2 H2 b2 at2 h2 q2 => by
      obtain ⟨ks1, e1, pd1⟩ := at1
      have ht1 : ∀ d ∈ [s.heap.objs.size], ∃ o, H1 d = some o := fun d hd => by rw [List.mem_singleton] at hd; subst hd; exact ⟨_, e1⟩
      have b3 := b1.to b2.I b2.st ht1
      have at3 : DAt (ct X ca) H2 s.heap.objs.size done := DAt.keep b1.I.hp ⟨ks1, e1, pd1⟩ (b1.nM _ hm) b2.st
      obtain ⟨ks3, e3, pd3⟩ := at3
      obtain ⟨ks4, e4, pd4⟩ := at2
      obtain ⟨z3, hs3, vs3, rel3, dd3⟩ := dk_of b3.I.inv.hok e3
      obtain ⟨z4, hs4, vs4, rel4, dd4⟩ := dk_of b3.I.inv.hok e4
      have ne : s.heap.objs.size ≠ d2 := fun e => by
        have := b2.nb d2 (List.mem_singleton.mpr rfl)
        rw [← e, e1] at this
        cases this
      have ln : done2.length = xs2.length := by have := congrArg List.length h2; simpa using this
      have keysD : ∀ {acc : List (D × D)} {ks : List (Key × V)}, PD (ct X ca) H2 acc ks → ∀ q ∈ ks, ∃ p ∈ acc, KRel p.1 q.1 := fun {acc ks} pd q hq => by
        obtain ⟨i, hi⟩ := List.mem_iff_getElem?.mp hq
        have hlt := (List.getElem?_eq_some_iff.mp hi).1
        obtain ⟨p, hp⟩ : ∃ p, acc[i]? = some p := ⟨acc[i]'(by rw [pd.len]; exact hlt), List.getElem?_eq_getElem _⟩
        obtain ⟨q', hq', kr, _⟩ := pd_get pd hp
        rw [hi] at hq'
        cases hq'
        exact ⟨p, List.mem_of_getElem? hp, kr⟩
      have apart : ∀ a ∈ vs3.map (·.1), ∀ b ∈ vs4.map (·.1), a ≠ b := fun a ha b hb e => by
        subst e
        rw [← rel3.keys] at ha
        rw [← rel4.keys] at hb
        obtain ⟨q, hq, rfl⟩ := List.mem_map.mp ha
        obtain ⟨q', hq', eq'⟩ := List.mem_map.mp hb
        obtain ⟨p, hp, kr⟩ := keysD pd3 q hq
        obtain ⟨p', hp', kr'⟩ := keysD pd4 q' hq'
        have hx : p'.1 ∈ xs2.map D.str := by rw [← h2]; exact List.mem_map.mpr ⟨p', hp', rfl⟩
        obtain ⟨x, hxm, ex⟩ := List.mem_map.mp hx
        rw [← ex, eq'] at kr'
        have hne := hn1 p hp x hxm
        cases hk : q.1 with
        | inl i => rw [hk] at kr'; exact kr'.elim
        | inr y =>
          rw [hk] at kr kr'
          have : x = y := kr'
          subst this
          cases hpk : p.1 with
          | str z => rw [hpk] at kr; have : z = x := kr; subst this; exact hne hpk
          | int i => rw [hpk] at kr; exact kr.elim
          | _ => rw [hpk] at kr; exact kr.elim
      have nd34 : ((vs3 ++ vs4).map (·.1)).Nodup := by
        rw [List.map_append, List.nodup_append]
        obtain ⟨_, _, _, _, _, _, _, _, n3⟩ := dd3
        obtain ⟨_, _, _, _, _, _, _, _, n4⟩ := dd4
        exact ⟨n3, n4, apart⟩
      have l34 : vs3.length + vs4.length ≤ 60 := by
        rw [← rel3.length, ← rel4.length, ← pd3.len, ← pd4.len, ln]
        exact hl1
      have h30 : vs3 ≠ [] := fun e => by
        have := rel3.length
        rw [e, ← pd3.len, ld, l1] at this
        cases this
      refine wpAny_bind (wpAny_onRaise (wpAny_holding (merge_pairs ne hs4 dd3 dd4 h30 (by rw [sizeLine_eq]; omega) nd34 fun h' dd' sb => wpAny_pure ?_)))
      have he : ∃ q, h'.get? s.heap.objs.size = some q := let ⟨q, _, _, hq, _⟩ := dd'; ⟨q, hq⟩
      have rel34 : KV (ks3 ++ ks4) (vs3 ++ vs4) := kv_app rel3 rel4
      have J : Inv X pins σ (upd H2 s.heap.objs.size (.dK (ks3 ++ ks4))) { s2 with heap := h' } :=
        d_write (t' := s2.toks) b3.I.inv (by rw [e3]; exact True.intro) sb he (dk_new (by rw [rel34.length, List.length_append, sizeLine_eq]; omega) hs3 rel34 dd')
      have kw : TupK H2 (upd H2 s.heap.objs.size (.dK (ks3 ++ ks4))) := tupK_set e3 (fun _ z => nomatch z) (fun _ _ z => nomatch z)
      have b4 := b3.wr hm e3 J
      refine bld_end (acc := done ++ done2) b4 ⟨_, upd_same, PD.keep kw (pd_app pd3 pd4)⟩ (disp_end q2 ?_ ?_)
      · unfold flatP; rw [List.flatMap_append]
      · intro e
        have := congrArg List.length e
        rw [List.length_append, ld, l1] at this
        simp at this
    exact sub
end
end L3
end
section
set_option autoImplicit false
set_option linter.all false
set_option maxRecDepth 100000
/-! L3: every compiled expression is sound -/
namespace L3
open PySem L2 PyProof.Rows

section
variable {ca : Nat → Addr} {X : Cx} {M0 M : Mp} {pins : List (Addr × Obj)} {σ3 : Lo} {σ : L2.St} {H : Hp} {s : Shared} {P : Pr} {X3 : Xp} {cc : CC}
theorem two_tru {v : Value} {x : D} {av : V} {k : Bool → Mp → Prop} {Z : Bool → Shared → Prop} (I : I3 (ct X ca) X M0 pins σ3 M σ H s) (rv : RelV av v) (rd : RD (ct X ca) H x av) (h : truthy x M fun b => k b M)
    (z : ∀ b s', TP3 (ct X ca) X M0 pins σ3 σ H M k b s' → Z b s') : wpAny (model X.prog X.w) X.A (PySem.truthy v) Z X.xe s := thn (o_tru I rv rd h) z
theorem s_cmp2 {a b c : Expr} {ia ib ic : E} {pos : Pos} {o o' : CmpOp} (ok : Ok3 ca X P cc) (hm : lastMarks [o, o'] [b, c] = false) (ha : SndE ca X M0 P X3 a ia) (hb : SndE ca X M0 P X3 b ib) (hc : SndE ca X M0 P X3 c ic) :
    SndE ca X M0 P X3 (.Compare a [o, o'] [b, c] pos) (.cmp2 (cCop o) (cCop o') ia ib ic) := by
  intro pins s σ H σ3 M Q I hw
  refine Compare_chain (thn (ha pins s σ H σ3 M _ I hw) fun v s1 ⟨x, M1, av, H1, I1, rv, rd, st, hw1⟩ => chain_link (thn (hb pins s1 σ H1 σ3 M1 _ I1 hw1) fun u s2 ⟨y, M2, bv, H2, I2, rv2, rd2, st2, hw2⟩ => ?_)) hm
  have h1 := o_cmp ok.hu ok.sy (cCop o) (ca := ca) pins s2 σ H2 M0 M2 σ3 x y av bv v u (fun d M3 => ∃ r, d = .bl r ∧ M3 = M2 ∧ (if r = true then wpE P X3 ic σ3 M2 fun z M3 => wpCmp (cCop o') y z M3 fun r' => Q (.bl r') M3 else Q (.bl false) M2)) I2 rv rv2 (rd.keep (st2.tupK I1.hp)) rd2
  have h2 := h1 (by
    revert hw2
    generalize hG : (fun r : Bool => if r = true then wpE P X3 ic σ3 M2 fun z M3 => wpCmp (cCop o') y z M3 fun r' => Q (.bl r') M3 else Q (.bl false) M2) = G
    intro hw2
    have : (fun r : Bool => ∃ r', D.bl r = .bl r' ∧ M2 = M2 ∧ G r') = G := by
      funext r
      apply propext
      constructor
      · rintro ⟨r', e, _, g⟩; cases e; exact g
      · intro g; exact ⟨r, rfl, rfl, g⟩
    have e2 : (fun r : Bool => ∃ r', D.bl r = .bl r' ∧ M2 = M2 ∧ (if r' = true then wpE P X3 ic σ3 M2 fun z M3 => wpCmp (cCop o') y z M3 fun r' => Q (.bl r') M3 else Q (.bl false) M2)) = G := by
      rw [← this]; funext r; rw [← hG]
    show wpCmp (cCop o) x y M2 _
    rw [e2]
    exact hw2)
  rw [cop_c] at h2
  refine thn h2 fun d s3 ⟨dd, M3, v3, H3, I3', r3, rd3, st3, r, e1, e2, q3⟩ => ?_
  subst e1; subst e2
  have e3 : v3 = .bl r := rd3
  subst e3
  cases r3
  refine wpAny_truthy_bool ?_
  cases r with
  | false => exact ite_ff (ep_st (st.trans (st2.trans st3)) (ep_bl I3' I3'.inv q3))
  | true =>
    refine ite_tt (chain_last (thn (hc pins s3 σ H3 σ3 M3 _ I3' q3) fun w s4 ⟨z, M4, cv, H4, I4, rv4, rd4, st4, q4⟩ => ?_))
    have h5 := o_cmp ok.hu ok.sy (cCop o') (ca := ca) pins s4 σ H4 M0 M4 σ3 y z bv cv u w Q I4 rv2 rv4 ((rd2.keep (st3.tupK I2.hp)).keep (st4.tupK I3'.hp)) rd4 q4
    rw [cop_c] at h5
    exact thn h5 fun _ _ e => ep_st ((st.trans (st2.trans st3)).trans st4) e
theorem s_cmp2T {a b c : Expr} {ia ib ic : E} {pos : Pos} {o o' : CmpOp} (ok : Ok3 ca X P cc) (hm : lastMarks [o, o'] [b, c] = false) (ha : SndE ca X M0 P X3 a ia) (hb : SndE ca X M0 P X3 b ib) (hc : SndE ca X M0 P X3 c ic) :
    SndT ca X M0 P X3 (.Compare a [o, o'] [b, c] pos) (.val (.cmp2 (cCop o) (cCop o') ia ib ic)) := by
  intro whole pins s σ H σ3 M k _ I hw
  refine isTrue_chain (thn (ha pins s σ H σ3 M _ I hw) fun v s1 ⟨x, M1, av, H1, I1, rv, rd, st, hw1⟩ => test_link (thn (hb pins s1 σ H1 σ3 M1 _ I1 hw1) fun u s2 ⟨y, M2, bv, H2, I2, rv2, rd2, st2, hw2⟩ => ?_)) hm
  let G : Bool → Prop := fun r : Bool => if r = true then wpE P X3 ic σ3 M2 fun z M3 => wpCmp (cCop o') y z M3 fun r' => truthy (.bl r') M3 fun b => k b M3 else truthy (.bl false) M2 fun b => k b M2
  have hw3 : wpCmp (cCop o) x y M2 G := hw2
  have h1 := o_cmp ok.hu ok.sy (cCop o) (ca := ca) pins s2 σ H2 M0 M2 σ3 x y av bv v u (fun d M3 => ∃ r, d = .bl r ∧ M3 = M2 ∧ G r) I2 rv rv2 (rd.keep (st2.tupK I1.hp)) rd2
  have h2 := h1 (by
    have e2 : (fun r : Bool => ∃ r', D.bl r = .bl r' ∧ M2 = M2 ∧ G r') = G := by
      funext r
      apply propext
      constructor
      · rintro ⟨r', e, _, g⟩; cases e; exact g
      · intro g; exact ⟨r, rfl, rfl, g⟩
    show wpCmp (cCop o) x y M2 _
    rw [e2]
    exact hw3)
  rw [cop_c] at h2
  refine thn h2 fun d s3 ⟨dd, M3, v3, H3, I3', r3, rd3, st3, r, e1, e2, q3⟩ => ?_
  subst e1; subst e2
  have e3 : v3 = .bl r := rd3
  subst e3
  cases r3
  refine wpAny_truthy_bool ?_
  cases r with
  | false => exact ite_ff ⟨M3, H3, I3', st.trans (st2.trans st3), q3⟩
  | true =>
    refine ite_tt (test_last (thn (hc pins s3 σ H3 σ3 M3 _ I3' q3) fun w s4 ⟨z, M4, cv, H4, I4, rv4, rd4, st4, q4⟩ => ?_))
    have h5 := o_cmp ok.hu ok.sy (cCop o') (ca := ca) pins s4 σ H4 M0 M4 σ3 y z bv cv u w (fun d M5 => truthy d M5 fun b => k b M5) I4 rv2 rv4 ((rd2.keep (st3.tupK I2.hp)).keep (st4.tupK I3'.hp)) rd4 q4
    rw [cop_c] at h5
    exact thn h5 fun c s5 ⟨d5, M5, v5, H5, I5, r5, rd5, st5, q5⟩ => thn (o_tru I5 r5 rd5 q5) fun _ _ e => tp_st ((((st.trans (st2.trans st3)).trans st4)).trans st5) e
theorem if_none {b : Bool} {α : Type} {a : Option α} {c : α} (h : (if b = true then none else a) = some c) : b = false ∧ a = some c := by
  cases b with
  | true => cases h
  | false => exact ⟨rfl, h⟩
theorem if_some {b : Bool} {α : Type} {a : Option α} {c : α} (h : (if b = true then a else none) = some c) : b = true ∧ a = some c := by
  cases b with
  | true => exact ⟨rfl, h⟩
  | false => cases h
end

section
variable {ca : Nat → Addr} {X : Cx} {M0 M : Mp} {P : Pr} {cc : CC}
theorem cEs_one {n : Nat} {a : Expr} {ies : Es} (h : cEs n cc [a] = some ies) : ∃ ie, ies = .cons ie .nil := by
  cases n with
  | zero => simp [cEs] at h
  | succ n =>
    simp only [cEs] at h
    obtain ⟨_, h⟩ := if_some h
    split at h
    · rename_i h1 h2
      cases h
      cases n with
      | zero => simp [cEs] at h2
      | succ n => simp [cEs] at h2; subst h2; exact ⟨_, rfl⟩
    · cases h
theorem cEs_two {n : Nat} {a b : Expr} {ies : Es} (h : cEs n cc [a, b] = some ies) : ∃ ie ie2, ies = .cons ie (.cons ie2 .nil) := by
  cases n with
  | zero => simp [cEs] at h
  | succ n =>
    unfold cEs at h
    obtain ⟨_, h⟩ := if_some h
    split at h
    · rename_i h1 h2
      cases h
      obtain ⟨ie2, rfl⟩ := cEs_one h2
      exact ⟨_, _, rfl⟩
    · cases h
theorem cEs_nil {n : Nat} {ies : Es} (h : cEs n cc [] = some ies) : ies = .nil := by
  cases n with
  | zero => simp [cEs] at h
  | succ n => simpa [cEs] using h.symm
theorem cTg_ok {tg : Expr} {t : Tg} (ok : Ok3 ca X P cc) (h : cTg cc tg = some t) : SndTg ca X M0 tg t := by
  unfold cTg at h
  split at h
  · split at h
    · cases h; exact tg_one ok (by assumption)
    · cases h
  · split at h
    · cases h; exact tg_many ok (by assumption)
    · cases h
  · cases h
theorem slotW_mem {x : Str} {i : Nat} (h : cc.slotW x = some i) : cc.N.findIdx? (· == x) = some i ∧ (cc.sc.names.lookup x = some .local ∨ cc.sc.names.lookup x = some .cell) := by
  unfold CC.slotW at h
  cases e : cc.sc.names.lookup x with
  | none => rw [e] at h; cases h
  | some k =>
    rw [e] at h
    cases k with
    | «local» => exact ⟨h, .inl rfl⟩
    | cell =>
      cases ec : cc.cs with
      | true => rw [ec] at h; exact ⟨h, .inr rfl⟩
      | false => rw [ec] at h; cases h
    | _ => cases h
theorem blk_ok {N : List Str} {sc scope : Scope} (h : blkB N sc scope = true) : BlkOk N sc scope (ownC N scope) := by
  unfold blkB at h
  simp only [Bool.and_eq_true, decide_eq_true_eq, List.all_eq_true, Bool.or_eq_true, Bool.not_eq_true', decide_eq_false_iff_not, Bool.or_eq_false_iff] at h
  obtain ⟨⟨⟨h1, h2⟩, h3⟩, h4⟩ := h
  refine ⟨h1, h2, fun p hp => ?_, fun y hy e => (h3 y hy).resolve_left fun z => z e, fun y hy e => ?_⟩
  · obtain ⟨y, _, e⟩ := List.mem_filterMap.mp hp
    split at e
    · cases q : N.findIdx? (· == y.1) with
      | none => rw [q] at e; cases e
      | some i =>
        rw [q] at e
        cases e
        exact findIdx_get q
    · cases e
  · rcases h4 y hy with z | z
    · exact absurd e (by rintro (e | e); exact z.1 e; exact z.2 e)
    · rcases z with z | z
      · exact .inl (by simpa using z)
      · exact .inr (by simpa using z)
end
theorem s_cidx1 {ca : Nat → Addr} {X : Cx} {M0 : Mp} {P : Pr} {cc : CC} {X3 : Xp} {x : Str} {ap p pos : Pos} {ds : List D} {es : List Expr} {ies : Es} (h1 : es.length = 1) (ok : Ok3 ca X P cc) (hf : cc.glob x = some (.con (.kt ds))) (hl : (ap.endLine == pos.line) = true) (hp : Plain es) (ha : SndEs ca X M0 P X3 es ies) :
    SndE ca X M0 P X3 (.Call (.Attribute (.Name x p) "index" ap) es [] pos) (.cidx ds ies) := by
  match es, h1 with
  | [e], _ => exact s_cidx ok hf hl hp ha
/-- the block's context -/
theorem ok_blk {ca : Nat → Addr} {X : Cx} {P : Pr} {cc : CC} {scope : Scope} (ok : Ok3 ca X P cc) (s : Shared) (H : Hp) (C : Addr) (cl : List (Str × Addr)) (fp : List Addr) :
    Ok3 ca (X.blk s H scope (compEnvC scope cl C X.env) fp) P { cc with sc := relC scope cc.sc, cs := false } where
  N := ok.N
  sc := by
    show relC scope cc.sc = relabel scope X.env
    rw [ok.sc]
    rfl
  nd := ok.nd
  g := ⟨ok.g.fn, ok.g.blt, ok.g.cls, ok.g.mth, ok.g.fl, ok.g.con⟩
  hu := ok.hu
  hg := ok.hg
  hc := ok.hc
  sy := ok.sy
  cell := fun h => nomatch h

def AllE (n : Nat) : Prop := ∀ (ca : Nat → Addr) (X : Cx) (M0 : Mp) (P : Pr) (cc : CC), Ok3 ca X P cc →
  (∀ (X3 : Xp) (e : Expr) (i : E), cE n cc e = some i → SndE ca X M0 P X3 e i) ∧ (∀ (X3 : Xp) (es : List Expr) (i : Es), cEs n cc es = some i → SndEs ca X M0 P X3 es i) ∧ (∀ (X3 : Xp) (e : Expr) (i : T), cT n cc e = some i → SndT ca X M0 P X3 e i) ∧
  (∀ (tg e : Expr) (k : ItK) (es : Es), cI n cc e = some (k, es) → itOk k tg = true → SndI ca X M0 P tg e k es ∧ ∀ x, foldedSetIterable e X.env x = pure x) ∧ (∀ (ifs : List Expr) (i : T), cIf n cc ifs = some i → PTs X ifs (ttB (ct X ca) P i)) ∧ (∀ (X3 : Xp) (e : Option Expr) (i : E), cP n cc e = some i → SndP ca X M0 P X3 e i) ∧ (∀ (X3 : Xp) (ks : List (Option Expr)) (vs : List Expr) (i : Es), cPs n cc ks vs = some i → SndPs ca X M0 P X3 ks vs i)
theorem allE : ∀ n, AllE n
  | 0 => fun ca X M0 P cc ok => ⟨fun X3 e i h => by simp [cE] at h, fun X3 e i h => by simp [cEs] at h, fun X3 e i h => by simp [cT] at h, fun tg e k es h => by simp [cI] at h, fun ifs i h => by simp [cIf] at h, fun X3 e i h => by simp [cP] at h, fun X3 ks vs i h => by simp [cPs] at h⟩
  | n + 1 => fun ca X M0 P cc ok => by
    obtain ⟨hE, hEs, hT, hI, hF, hP, hPs⟩ := allE n ca X M0 P cc ok
    have hTA := (allE n ca X MAll P cc ok).2.2.1
    refine ⟨fun X3 e i h => ?_, fun X3 es i h => ?_, fun X3 e i h => ?_, fun tg e k es h hk => ?_, fun ifs i h => ?_, fun X3 e i h => ?_, fun X3 ks vs i h => ?_⟩
    · unfold cE at h
      split at h
      · -- a name
        split at h
        · cases h; exact s_var ok (by assumption)
        · split at h
          · cases h; exact s_con ok (by assumption)
          · cases h
      · split at h
        · cases h; exact s_int
        · cases h; exact s_bl
        · cases h; exact s_str
        · cases h; exact s_non
        · cases h
      · split at h
        · rename_i h1 h2 h3
          cases h; exact s_bin h1 (hE _ _ _ h2) (hE _ _ _ h3)
        · cases h
      · split at h
        · rename_i h1
          cases h; exact s_not (hE _ _ _ h1)
        · cases h
      · split at h
        · rename_i h1
          cases h; exact s_un (hE _ _ _ h1)
        · cases h
      · obtain ⟨hm, h⟩ := if_none h
        split at h
        · rename_i h1 h2
          cases h; exact s_cmp ok hm (hE _ _ _ h1) (hE _ _ _ h2)
        · cases h
      · obtain ⟨hm, h⟩ := if_none h
        split at h
        · rename_i h1 h2 h3
          cases h; exact s_cmp2 ok hm (hE _ _ _ h1) (hE _ _ _ h2) (hE _ _ _ h3)
        · cases h
      · exact fun pins s σ H σ3 M Q I hw => BoolOp_one (hE _ _ _ h pins s σ H σ3 M Q I hw)
      · split at h
        · rename_i h1 h2
          cases h; exact s_and (hE _ _ _ h1) (hE _ _ _ h2)
        · cases h
      · split at h
        · rename_i h1 h2
          cases h; exact s_or (hE _ _ _ h1) (hE _ _ _ h2)
        · cases h
      · split at h
        · rename_i h1 h2 h3
          cases h; exact s_ite (hT _ _ _ h1) (hE _ _ _ h2) (hE _ _ _ h3)
        · cases h
      · split at h
        · rename_i h1
          cases h; exact s_tup (hEs _ _ _ h1)
        · cases h
      · split at h
        · rename_i h1
          cases h; exact s_lst (hEs _ _ _ h1)
        · cases h
      · split at h
        · rename_i h1 h2 h3
          cases h; exact s_sl (hE _ _ _ h1) (hP _ _ _ h2) (hP _ _ _ h3)
        · cases h
      · obtain ⟨hm, h⟩ := if_some h
        split at h
        · rename_i h1 h2
          cases h; exact s_ix ok hm (hE _ _ _ h1) (hE _ _ _ h2)
        · cases h
      · cases h; exact s_dnew
      · -- a dict display
        obtain ⟨hm, h⟩ := if_some h
        rw [Bool.and_eq_true, Bool.and_eq_true] at hm
        split at h
        · rename_i h1
          cases h; exact s_disp ok (of_decide_eq_true hm.1.1) hm.1.2 (of_decide_eq_true hm.2) (hPs _ _ _ _ h1)
        · cases h
      · obtain ⟨hm, h⟩ := if_some h
        split at h
        · rename_i h1
          cases h; exact s_fld ok hm (hE _ _ _ h1)
        · cases h
      · -- a list comprehension
        obtain ⟨hm, h⟩ := if_some h
        split at h
        · rename_i h1 h2 h3 h4
          split at h
          · rename_i hk
            cases h
            rw [ok.N, ok.sc] at hm
            obtain ⟨i1, i2⟩ := hI _ _ _ _ h1 (Bool.and_eq_true_iff.mp hk).1
            rw [ok.N]
            rw [Bool.and_eq_true] at hk
            rw [ok.N] at hk
            have hk2 := List.all_eq_true.mp hk.2
            refine s_comp (ownC X.N _) ok (blk_ok hm) (fun i hi => by simpa using hk2 i hi) i1 i2 (fun s H C cl fp => cTg_ok (ok_blk ok s H C cl fp) h2) (fun s H C cl fp => (allE n ca _ MAll P _ (ok_blk ok s H C cl fp)).2.2.2.2.1 _ _ h3) (fun s H C cl fp => (allE n ca _ MAll P _ (ok_blk ok s H C cl fp)).1 _ _ _ h4)
          · cases h
        · cases h
      · -- a dict comprehension
        obtain ⟨hm, h⟩ := if_some h
        split at h
        · rename_i h1 h2 h3 h4 h5
          split at h
          · rename_i hk
            cases h
            rw [ok.N, ok.sc] at hm
            obtain ⟨i1, i2⟩ := hI _ _ _ _ h1 (Bool.and_eq_true_iff.mp hk).1
            rw [ok.N]
            rw [Bool.and_eq_true] at hk
            rw [ok.N] at hk
            have hk2 := List.all_eq_true.mp hk.2
            refine s_dcomp (ownC X.N _) ok (blk_ok hm) (fun i hi => by simpa using hk2 i hi) i1 i2 (fun s H C cl fp => cTg_ok (ok_blk ok s H C cl fp) h2) (fun s H C cl fp => (allE n ca _ MAll P _ (ok_blk ok s H C cl fp)).2.2.2.2.1 _ _ h3) (fun s H C cl fp => (allE n ca _ MAll P _ (ok_blk ok s H C cl fp)).1 _ _ _ h4) (fun s H C cl fp => (allE n ca _ MAll P _ (ok_blk ok s H C cl fp)).1 _ _ _ h5)
          · cases h
        · cases h
      · -- list(o.items())
        obtain ⟨hm, h⟩ := if_some h
        rw [Bool.and_eq_true] at hm
        split at h
        · rename_i h1 h2
          cases h; exact s_listItems ok h1 hm.1 hm.2 (hE _ _ _ h2)
        · cases h
      · -- sorted(o.items())
        obtain ⟨hm, h⟩ := if_some h
        rw [Bool.and_eq_true] at hm
        split at h
        · rename_i h1 h2
          cases h; exact s_sortedItems ok h1 hm.1 hm.2 (hE _ _ _ h2)
        · cases h
      · -- isinstance
        obtain ⟨hm, h⟩ := if_some h
        split at h
        · rename_i h1 h2 h3 h4
          cases h; exact s_inst ok h1 h2 h3 hm (hE _ _ _ h4)
        · cases h
      · -- a call by name
        split at h
        · rename_i f p es pos _ _ _ _ _ i' es' h1 h2
          cases h
          cases es with
          | nil => rw [cEs_nil h2]; exact s_call0 ok h1
          | cons e es => exact s_call ok h1 (cEs_plain h2) (hEs _ _ _ h2)
        · rename_i f p es pos _ _ _ _ _ c' i' es' h1 h2
          cases h
          cases es with
          | nil => rw [cEs_nil h2]; exact s_make0 ok h1
          | cons e es => exact s_make ok h1 (cEs_plain h2) (hEs _ _ _ h2)
        · rename_i f p es pos _ _ _ _ _ es' h1 h2
          split at h
          · rename_i b hb
            cases es with
            | nil => cases h
            | cons e es => cases h; exact s_blt ok h1 hb (cEs_plain h2) (hEs _ _ _ h2)
          · cases h
        · cases h
      · -- a method of a name's value
        split at h
        · rename_i hm
          rw [Bool.and_eq_true, Bool.and_eq_true] at hm
          obtain ⟨⟨hm1, hm2⟩, hm3⟩ := hm
          have hm1 := eq_of_beq hm1
          have hm3 := of_decide_eq_true hm3
          subst hm1
          split at h
          · rename_i h1 h2
            cases h
            exact s_cidx1 hm3 ok h1 hm2 (cEs_plain h2) (hEs _ _ _ h2)
          · rename_i h1 h2
            cases h
            exact s_mth ok.hu (mm := .index) rfl rfl hm2 (by omega) (cEs_plain h2) (fun e => by subst e; cases hm3) (s_con ok h1) (hEs _ _ _ h2)
          · cases h
        · split at h
          · rename_i h1 h2 h3
            obtain ⟨hm, h⟩ := if_some h
            rw [Bool.and_eq_true] at hm
            cases h
            exact s_mth ok.hu h1 rfl hm.1 (of_decide_eq_true hm.2) (cEs_plain h3) (fun e => by subst e; exact cEs_nil h3) (hE _ _ _ h2) (hEs _ _ _ h3)
          · rename_i h1 h2 h3
            obtain ⟨hm, h⟩ := if_some h
            rw [Bool.and_eq_true] at hm
            split at h
            · rename_i h4
              cases h
              exact s_umth ok h4 rfl hm.1 (of_decide_eq_true hm.2) (cEs_plain h3) (fun e => by subst e; exact cEs_nil h3) (hE _ _ _ h2) (hEs _ _ _ h3)
            · cases h
          · cases h
      · -- a method
        obtain ⟨hm, h⟩ := if_some h
        rw [Bool.and_eq_true, Bool.and_eq_true] at hm
        split at h
        · rename_i h1 h2 h3
          cases h
          exact s_mth ok.hu h1 hm.1.1 hm.1.2 (of_decide_eq_true hm.2) (cEs_plain h3) (fun e => by subst e; exact cEs_nil h3) (hE _ _ _ h2) (hEs _ _ _ h3)
        · rename_i h1 h2 h3
          split at h
          · rename_i h4
            cases h
            exact s_umth ok h4 hm.1.1 hm.1.2 (of_decide_eq_true hm.2) (cEs_plain h3) (fun e => by subst e; exact cEs_nil h3) (hE _ _ _ h2) (hEs _ _ _ h3)
          · cases h
        · cases h
      · cases h
    · unfold cEs at h
      split at h
      · rename_i e; cases e
      · cases h; exact s_nil
      · rename_i e1
        cases e1
        obtain ⟨hm, h⟩ := if_some h
        split at h
        · rename_i h1 h2
          cases h; exact s_cons hm (hE _ _ _ h1) (hEs _ _ _ h2)
        · cases h
    · unfold cT at h
      split at h
      · exact t_one (hT _ _ _ h)
      · split at h
        · rename_i h1 h2
          cases h; exact t_and (hT _ _ _ h1) (hT _ _ _ h2)
        · cases h
      · split at h
        · rename_i h1 h2
          cases h; exact t_or (hT _ _ _ h1) (hT _ _ _ h2)
        · cases h
      · split at h
        · rename_i h1
          cases h; exact t_not (hT _ _ _ h1)
        · cases h
      · obtain ⟨hm, h⟩ := if_none h
        split at h
        · rename_i h1 h2
          cases h; exact s_cmpT ok hm (hE _ _ _ h1) (hE _ _ _ h2)
        · cases h
      · obtain ⟨hm, h⟩ := if_none h
        split at h
        · rename_i h1 h2 h3
          cases h; exact s_cmp2T ok hm (hE _ _ _ h1) (hE _ _ _ h2) (hE _ _ _ h3)
        · cases h
      · obtain ⟨hm, h⟩ := if_some h
        split at h
        · rename_i h1
          cases h; exact t_val hm (hE _ _ _ h1)
        · cases h
    · -- what is walked
      unfold cI at h
      split at h
      · refine ⟨?_, fun _ => rfl⟩
        split at h
        · rename_i hm
          rw [Bool.and_eq_true, Bool.and_eq_true] at hm
          obtain ⟨⟨hm1, hm2⟩, hm3⟩ := hm
          have hm1 := eq_of_beq hm1
          subst hm1
          split at h
          · rename_i h1
            cases h
            cases tg with
            | Tuple a b c => exact i_items hm2 hm3 fun X3 => hE X3 _ _ h1
            | _ => cases hk
          · cases h
        · obtain ⟨hm, hx⟩ := if_some h
          rw [Bool.and_eq_true, Bool.and_eq_true] at hm
          obtain ⟨⟨hm1, hm2⟩, hm3⟩ := hm
          have hm1 := eq_of_beq hm1
          subst hm1
          split at hx
          · rename_i h1
            cases hx
            exact i_values hm2 hm3 fun X3 => hE X3 _ _ h1
          · cases hx
      · refine ⟨?_, fun _ => rfl⟩
        split at h
        · rename_i h1 h2
          obtain ⟨hg, hl, _, _⟩ := glob_ok ok h1
          split at h
          · rename_i hf
            have hf : _ = ("range" : Str) := eq_of_beq hf
            subst hf
            split at h
            · cases h
              obtain ⟨ie, rfl⟩ := cEs_one h2
              exact i_range1 hg (ok.g.blt _ hl) (cEs_plain h2 _ (by simp)) fun X3 => hEs X3 _ _ h2
            · cases h
              obtain ⟨ie, ie2, rfl⟩ := cEs_two h2
              exact i_range2 hg (ok.g.blt _ hl) (cEs_plain h2 _ (by simp)) (cEs_plain h2 _ (by simp)) fun X3 => hEs X3 _ _ h2
            · cases h
          · split at h
            · rename_i hf
              have hf : _ = ("reversed" : Str) := eq_of_beq hf
              subst hf
              split at h
              · cases h
                obtain ⟨ie, rfl⟩ := cEs_one h2
                exact i_rev hg (ok.g.blt _ hl) (cEs_plain h2 _ (by simp)) fun X3 => hEs X3 _ _ h2
              · cases h
            · split at h
              · rename_i hf
                have hf : _ = ("enumerate" : Str) := eq_of_beq hf
                subst hf
                split at h
                · cases h
                  obtain ⟨ie, rfl⟩ := cEs_one h2
                  cases tg with
                  | Tuple a b c => exact i_enum hg (ok.g.blt _ hl) (cEs_plain h2 _ (by simp)) fun X3 => hEs X3 _ _ h2
                  | _ => cases hk
                · cases h
              · split at h
                · rename_i hf
                  have hf : _ = ("sorted" : Str) := eq_of_beq hf
                  subst hf
                  split at h
                  · cases h
                    exact i_plain fun X3 => s_blt ok h1 rfl (cEs_plain h2) (hEs X3 _ _ h2)
                  · cases h
                · split at h
                  · rename_i hf
                    have hf : _ = ("list" : Str) := eq_of_beq hf
                    subst hf
                    split at h
                    · cases h
                      exact i_plain fun X3 => s_blt ok h1 rfl (cEs_plain h2) (hEs X3 _ _ h2)
                    · cases h
                  · cases h
        · rename_i f p es pos _ _ i' es' h1 h2
          cases h
          refine i_plain fun X3 => ?_
          cases es with
          | nil => rw [cEs_nil h2]; exact s_call0 ok h1
          | cons e es => exact s_call ok h1 (cEs_plain h2) (hEs X3 _ _ h2)
        · cases h
      · split at h
        · rename_i h1
          obtain ⟨hs, h⟩ := if_some h
          cases h
          refine ⟨i_plain fun X3 => hE X3 _ _ h1, fun x => ?_⟩
          cases e <;> first | rfl | cases hs
        · cases h
    · -- the tests
      unfold cIf at h
      split at h
      · rename_i e; cases e
      · cases h; exact pts_B0
      · rename_i e1
        cases e1
        exact pts_one (pt_B (hTA _ _ _ h))
      · cases h
    · -- a slice's part
      unfold cP at h
      split at h
      · rename_i e; cases e
      · cases h; exact sp_none
      · rename_i e1
        cases e1
        exact sp_some (hE _ _ _ h)
    · -- a display's pairs
      unfold cPs at h
      split at h
      · rename_i e; cases e
      · cases h; exact .nil
      · rename_i e1
        cases e1
        split at h
        · rename_i h1 h2
          cases h; exact .cons (hE _ _ _ h1) (hPs _ _ _ _ h2)
        · cases h
      · cases h
end L3
end
section
set_option autoImplicit false
set_option linter.all false
set_option maxRecDepth 100000
/-! L3: statements -/
namespace L3
open PySem L2 PyProof.Rows

/-- a statement has come to its end -/
def SP3 (C : Ct) (X : Cx) (M0 : Mp) (pins : List (Addr × Obj)) (Hb : Hp) (K : Ends) (f : Flow) (s' : Shared) : Prop := match f with
  | .next => ∃ σ3 M σ H, I3 C X M0 pins σ3 M σ H s' ∧ TupK Hb H ∧ K.nx σ3 M
  | .brk => ∃ σ3 M σ H, I3 C X M0 pins σ3 M σ H s' ∧ TupK Hb H ∧ K.bk σ3 M
  | .cont => ∃ σ3 M σ H, I3 C X M0 pins σ3 M σ H s' ∧ TupK Hb H ∧ K.ct σ3 M
  | .ret u => ∃ d v σ3 M σ H, I3 C X M0 pins σ3 M σ H s' ∧ TupK Hb H ∧ RelV v u ∧ RD C H d v ∧ K.rt d M
theorem SP3.from {C : Ct} {X : Cx} {M0 : Mp} {pins : List (Addr × Obj)} {Ha Hb : Hp} {K : Ends} {f : Flow} {s' : Shared} (k : TupK Ha Hb) (h : SP3 C X M0 pins Hb K f s') : SP3 C X M0 pins Ha K f s' := by
  cases f with
  | next => obtain ⟨a, b, c, d, I, k2, q⟩ := h; exact ⟨a, b, c, d, I, k.trans k2, q⟩
  | brk => obtain ⟨a, b, c, d, I, k2, q⟩ := h; exact ⟨a, b, c, d, I, k.trans k2, q⟩
  | cont => obtain ⟨a, b, c, d, I, k2, q⟩ := h; exact ⟨a, b, c, d, I, k.trans k2, q⟩
  | ret u => obtain ⟨x, v, a, b, c, d, I, k2, q⟩ := h; exact ⟨x, v, a, b, c, d, I, k.trans k2, q⟩
abbrev Xs := D → Lo → Mp → Prop
def SndS (ca : Nat → Addr) (X : Cx) (M0 : Mp) (P : Pr) (st : Stmt) (i : S) : Prop :=
  ∀ (X3 : Xs) (pins : List (Addr × Obj)) (s : Shared) (σ : L2.St) (H : Hp) (σ3 : Lo) (M : Mp) (K : Ends), I3 (ct X ca) X M0 pins σ3 M σ H s → wpS P i X3 K σ3 M →
    wpAny (model X.prog X.w) X.A (exec st X.env) (SP3 (ct X ca) X M0 pins H K) X.xe s
def SndSs (ca : Nat → Addr) (X : Cx) (M0 : Mp) (P : Pr) (st : List Stmt) (i : Ss) : Prop :=
  ∀ (X3 : Xs) (pins : List (Addr × Obj)) (s : Shared) (σ : L2.St) (H : Hp) (σ3 : Lo) (M : Mp) (K : Ends), I3 (ct X ca) X M0 pins σ3 M σ H s → wpSs P i X3 K σ3 M →
    wpAny (model X.prog X.w) X.A (execs st X.env) (SP3 (ct X ca) X M0 pins H K) X.xe s

section
variable {ca : Nat → Addr} {X : Cx} {M0 M : Mp} {pins : List (Addr × Obj)} {σ3 : Lo} {σ : L2.St} {H : Hp} {s : Shared} {P : Pr} {cc : CC}
theorem swaps_ok {e : Expr} {t : Option Expr} {n : Nat} {env : Env} (h : noComp e = true) : swapsWith e t n env = pure false := by
  unfold swapsWith
  cases e <;> first | rfl | cases h
theorem sole_ok {e t : Expr} {n : Nat} {env : Env} (h : noComp e = true) : swapsWithSole [t] e n env = pure false := by
  unfold swapsWithSole
  exact swaps_ok h
theorem st_expr {e : Expr} {pos : Pos} {ie : E} (hn : noComp e = true) (h : SndEx ca X M0 P e ie) : SndS ca X M0 P (.Expr e pos) (.expr ie) := by
  intro X3 pins s σ H σ3 M K I hw
  exact wpAny_Expr_any (thn (h _ pins s σ H σ3 M _ I hw) fun v s1 ⟨d, M1, v1, H1, I1, r, rd, st, q⟩ => ⟨σ3, M1, σ, H1, I1, st.tupK I.hp, q⟩) I.inv.quiet (swaps_ok hn)
theorem st_ret {e : Expr} {pos : Pos} {ie : E} (h : SndEx ca X M0 P e ie) : SndS ca X M0 P (.Return (some e) pos) (.ret ie) := by
  intro X3 pins s σ H σ3 M K I hw
  exact wpAny_Return_some (thn (h _ pins s σ H σ3 M _ I hw) fun v s1 ⟨d, M1, v1, H1, I1, r, rd, st, q⟩ => ⟨d, v1, σ3, M1, σ, H1, I1, st.tupK I.hp, r, rd, q⟩)
theorem st_set {e : Expr} {x : Str} {pos pos' : Pos} {ie : E} {i : Nat} (ok : Ok3 ca X P cc) (hi : cc.slotW x = some i) (hn : noComp e = true) (h : SndEx ca X M0 P e ie) : SndS ca X M0 P (.Assign [.Name x pos'] e pos) (.set (.one i) ie) := by
  intro X3 pins s σ H σ3 M K I hw
  obtain ⟨h1, h2, h3⟩ := slotW_ok ok hi
  refine wpAny_Assign_Name (thn (h _ pins s σ H σ3 M _ I hw) fun v s1 ⟨d, M1, v1, H1, I1, r, rd, st, q⟩ => ?_) (swaps_ok hn)
  exact store_ok I1.inv ok.nd h1 h2 r (fun s2 J => ⟨_, M1, _, H1, I1.store rd J, st.tupK I.hp, q⟩) h3
/-- name = [..]: the comprehension stores by itself -/
theorem st_setLc {ex tg iter : Expr} {ifs : List Expr} {scope : Scope} {x : Str} {px pos spos : Pos} {ie : E} {t : Tg} {k : ItK} {es : Es} {ic : T} {i : Nat} (own : List (Str × Nat)) (ok : Ok3 ca X P cc) (hx : cc.slotW x = some i) (hsw : swapC cc x px (.ListComp ex [⟨tg, iter, ifs, 0⟩] scope pos) = true)
    (bok : BlkOk X.N X.env.scope scope own) (hsl : ∀ i ∈ t.sl, i ∈ own.map (·.2)) (hi : SndI ca X M0 P tg iter k es) (hs : ∀ x, foldedSetIterable iter X.env x = pure x)
    (hg : ∀ (s : Shared) (H : Hp) (C : Addr) (cl : List (Str × Addr)) (fp : List Addr), SndTg ca (X.blk s H scope (compEnvC scope cl C X.env) fp) MAll tg t)
    (ht : ∀ (s : Shared) (H : Hp) (C : Addr) (cl : List (Str × Addr)) (fp : List Addr), PTs (X.blk s H scope (compEnvC scope cl C X.env) fp) ifs (ttB (ct X ca) P ic))
    (he : ∀ (s : Shared) (H : Hp) (C : Addr) (cl : List (Str × Addr)) (fp : List Addr), SndE ca (X.blk s H scope (compEnvC scope cl C X.env) fp) MAll P (fun _ _ => False) ex ie) :
    SndS ca X M0 P (.Assign [.Name x px] (.ListComp ex [⟨tg, iter, ifs, 0⟩] scope pos) spos) (.set (.one i) (.comp (own.map (·.2)) ie t k es ic)) := by
  intro X3 pins s σ H σ3 M K I hw
  obtain ⟨h1, h2, h3⟩ := slotW_ok ok hx
  have hsw : (decide (cc.sc.names.lookup x = some .local) && (px.line == pos.line) && !(scope.names.any fun (n, k) => n == x && (k == .local || k == .cell))) = true := hsw
  rw [Bool.and_eq_true, Bool.and_eq_true, decide_eq_true_eq, Bool.not_eq_true'] at hsw
  obtain ⟨⟨w1, w2⟩, w3⟩ := hsw
  rw [ok.sc] at w1
  have hw' : wpE P (fun x M => X3 x σ3 M) (.comp (own.map (·.2)) ie t k es ic) σ3 M (fun d M1 => wpTg (.one i) d σ3 M1 fun σ1 => K.nx σ1 M1) := hw
  let Qe : Post := fun d M1 => wpTg (.one i) d σ3 M1 fun σ1 => K.nx σ1 M1
  let De : L2.Ends := ⟨fun σ' H' => ∃ D, σ' = σ.set i (some (.ref D)) ∧ LcEnd ca X M0 σ H σ3 M Qe D H', fun _ _ => False, fun _ _ => False, fun _ _ => False⟩
  have tr : tLc (tiB ca X M0 P (fun x M => X3 x σ3 M) k es) (tgB (ct X ca) t) (ttB (ct X ca) P ic) (teB (ct X ca) P ie) (own.map (·.2)) σ H (fun x H1 => gName i x σ H1 De.nx) := lc_tr (own.map (·.2)) hsl I hw' fun D H' q => ⟨D, rfl, q⟩
  have run := (ps_setLc (te := teB (ct X ca) P ie) (tt := ttB (ct X ca) P ic) (g := tgB (ct X ca) t) (wi := tiB ca X M0 P (fun x M => X3 x σ3 M) k es) (spos := spos) ok.hc ok.nd h1 w1 (sw_true I.inv.ok.kind w1 w2 w3) (pi_B hi) bok (fun s H C cl fp => pg_B (hg s H C cl fp)) ht (fun s H C cl fp => pe_B (he s H C cl fp)) hs).run pins s σ H De I.inv tr
  refine thn run fun f s' h => ?_
  cases f with
  | next =>
    obtain ⟨σ', H', J, D, rfl, q⟩ := h
    have rl := q.choose_spec.choose_spec.choose_spec.choose_spec.1
    obtain ⟨M2, H2, I2, st2, q2⟩ := lc_end I q J (rl.set (i := i) (d := .ref D) (v := .ref D) rfl)
    exact ⟨_, M2, _, H2, I2, st2.tupK I.hp, q2⟩
  | brk => obtain ⟨_, _, _, z⟩ := h; exact z.elim
  | cont => obtain ⟨_, _, _, z⟩ := h; exact z.elim
  | ret u => obtain ⟨_, _, _, _, _, z⟩ := h; exact z.elim
theorem st_setT {e : Expr} {ts : List Expr} {kk : Nat} {pos pos' : Pos} {ie : E} {t : Tg} (ht : SndTg ca X M0 (.Tuple ts kk pos') t) (hn : (noComp e && !isTupE e) = true) (h : SndEx ca X M0 P e ie) : SndS ca X M0 P (.Assign [.Tuple ts kk pos'] e pos) (.set t ie) := by
  intro X3 pins s σ H σ3 M K I hw
  rw [Bool.and_eq_true] at hn
  have hsw : swappedStores [.Tuple ts kk pos'] e X.env = pure none := by
    unfold swappedStores
    cases e <;> first | rfl | cases hn.2
  have h1 : (assignEach [.Tuple ts kk pos'] X.env).map (·.2) = [assign (.Tuple ts kk pos') X.env] := rfl
  refine wpAny_Assign_stores (thn (h _ pins s σ H σ3 M _ I hw) fun v s1 ⟨d, M1, v1, H1, I1, r, rd, st, q⟩ => ?_) (sole_ok hn.1) hsw
  rw [h1]
  show wpAny _ _ (assign (.Tuple ts kk pos') X.env v) _ _ _
  exact thn (ht pins s1 σ H1 σ3 M1 d v1 v _ I1 r rd q) fun _ s2 ⟨σ3', σ', J, _, q⟩ => ⟨σ3', M1, σ', H1, J, st.tupK I.hp, q⟩
theorem swaps_attr {e o : Expr} {f : Str} {p : Pos} {n : Nat} {env : Env} : swapsWith e (some (.Attribute o f p)) n env = pure false := by
  unfold swapsWith
  cases e <;> rfl
theorem st_setFld {o e : Expr} {f : Str} {pos pos' : Pos} {io ie : E} (ok : Ok3 ca X P cc) (hn : noSuper o = true) (ho : SndEx ca X M0 P o io) (h : SndEx ca X M0 P e ie) : SndS ca X M0 P (.Assign [.Attribute o f pos'] e pos) (.setFld io f ie) := by
  intro X3 pins s σ H σ3 M K I hw
  refine plainObj_wpAny_Assign_Attribute (thn (h _ pins s σ H σ3 M _ I hw) fun v s1 ⟨d, M1, v1, H1, I1, r, rd, st, q⟩ => thn (ho _ pins s1 σ H1 σ3 M1 _ I1 q) fun ov s2 ⟨x, M2, xv, H2, I2, r2, rd2, st2, q2⟩ => ?_) swaps_attr
  exact thn (o_setFld ok I2 r2 r rd2 (rd.keep (st2.tupK I1.hp)) q2) fun _ s3 ⟨M3, H3, I3', k3, q3⟩ => ⟨σ3, M3, σ, H3, I3', ((st.tupK I.hp).trans (st2.tupK I1.hp)).trans k3, q3⟩
theorem st_augFld {a e : Expr} {f : Str} {pos pos' : Pos} {o : Operator} {o' : BOp} {ia ie : E} (ok : Ok3 ca X P cc) (hop : cBop o = some o') (ha : SndEx ca X M0 P a ia) (h : SndEx ca X M0 P e ie) : SndS ca X M0 P (.AugAssign (.Attribute a f pos') o e pos) (.augFld ia f o' ie) := by
  intro X3 pins s σ H σ3 M K I hw
  have eo : o = bop o' := by
    cases o <;> cases o' <;> first | rfl | cases hop
  subst eo
  refine wpAny_AugAssign_AttributeAny (thn (ha _ pins s σ H σ3 M _ I hw) fun ov s1 ⟨x, M1, xv, H1, I1, r1, rd1, st1, q1⟩ => ?_)
  refine thn (o_fld ok I1 r1 rd1 q1) fun w s2 ⟨d, M2, dv, H2, I2, r2, rd2, st2, q2⟩ => ?_
  refine thn (h _ pins s2 σ H2 σ3 M2 _ I2 q2) fun u s3 ⟨y, M3, yv, H3, I3', r3, rd3, st3, q3⟩ => ?_
  refine thn (o_inp o' (ca := ca) pins s3 σ H3 M0 M3 σ3 d y dv yv w u _ I3' r2 r3 (rd2.keep (st3.tupK I2.hp)) rd3 q3) fun z s4 ⟨zd, M4, zv, H4, I4, r4, rd4, st4, q4⟩ => ?_
  exact thn (o_setFld ok I4 r1 r4 (((rd1.keep (st2.tupK I1.hp)).keep (st3.tupK I2.hp)).keep (st4.tupK I3'.hp)) rd4 q4) fun _ s5 ⟨M5, H5, I5, k5, q5⟩ => ⟨σ3, M5, σ, H5, I5, ((((st1.tupK I.hp).trans (st2.tupK I1.hp)).trans (st3.tupK I2.hp)).trans (st4.tupK I3'.hp)).trans k5, q5⟩
theorem assign_sub {o i : Expr} {pos : Pos} {env : Env} (h : notSlice i = true) (v : Value) : assign (.Subscript o i pos) env v = (do
    let ov ← holding [v] (eval o env)
    let iv ← holding [v, ov] (eval i env)
    standAt pos
    holding [v, ov, iv] (setItem ov iv v)
    release [v, ov, iv] []) := by
  cases i <;> first | rfl | cases h
theorem o_setIx (hu : X.A.units + 10 < cLine) {x y z : D} {a b c : V} {v u w : Value} {k : Mp → Prop} (I : I3 (ct X ca) X M0 pins σ3 M σ H s) (ra : RelV a v) (rb : RelV b u) (rc : RelV c w) (hx : RD (ct X ca) H x a) (hy : RD (ct X ca) H y b) (hz : RD (ct X ca) H z c) (h : wpSetIx x y z M k) :
    wpAny (model X.prog X.w) X.A (setItem v u w) (fun _ s' => ∃ M' H', I3 (ct X ca) X M0 pins σ3 M' σ H' s' ∧ TupK H H' ∧ k M') X.xe s := by
  cases x with
  | ref p =>
    have e : a = .ref p := hx; subst e
    cases g : M p with
    | none => simp only [wpSetIx, g] at h
    | some o =>
      cases o with
      | lst ds => cases y with
        | int i =>
          simp only [wpSetIx, g] at h
          obtain ⟨⟨h0, h1⟩, q⟩ := h
          obtain ⟨xs, hxs, rs⟩ := I.hp.lst g
          have hl := rs.length
          refine thn (set_list pins s σ H (.ref p) b c v u w (fun H' => H' = upd H p (.lst (xs.set i.toNat c))) I.inv ra rb rc ⟨p, xs, i, i.toNat, rfl, hy, hxs, ?_, rfl⟩) fun _ s' ⟨H', J, e⟩ => ?_
          · unfold ixN
            rw [if_pos h0, if_pos (by omega)]
          · subst e
            exact ⟨_, _, I.to J (I.hp.write (m' := .lst (ds.set i.toNat z)) g (RDs.keep (I.hp.tupKw g) (RDs.set i.toNat rs hz))) (write_stp I.hp g), I.hp.tupKw g, q⟩
        | _ => simp only [wpSetIx, g] at h
      | dct kvs =>
        simp only [wpSetIx, g] at h
        obtain ⟨⟨hk, hl⟩, q⟩ := h
        obtain ⟨ks, hH, pd, ty⟩ := I.dictAt g
        obtain ⟨kk, rfl, kr⟩ := key_rd hy hk
        cases ra
        have kw : TupK H (upd H p (.dK (putK ks kk c))) := I.hp.tupKw g
        exact d_setItem (by omega) I.inv (DPut.k hH (by rw [← pd.len]; exact hl)) rb rc fun s' J => ⟨_, _, I.to J (I.hp.write (m' := .dct (dput kvs y z)) g ⟨putK ks kk c, rfl, PD.keep kw (pd_put kr hz pd)⟩) (write_stp I.hp g), kw, q⟩
      | dcT kvs =>
        simp only [wpSetIx, g] at h
        obtain ⟨⟨hk, hl⟩, q⟩ := h
        cases ra
        exact t_setItem hu I g hy rb hk hz rc hl fun H' s' I2 st => ⟨_, H', I2, st.tupK I.hp, q⟩
      | _ => simp only [wpSetIx, g] at h
  | _ => exact h.elim
theorem st_setIx {a b e : Expr} {pos pos' : Pos} {ia ib ie : E} (ok : Ok3 ca X P cc) (hs : notSlice b = true) (hn : noComp e = true) (ha : SndEx ca X M0 P a ia) (hb : SndEx ca X M0 P b ib) (h : SndEx ca X M0 P e ie) : SndS ca X M0 P (.Assign [.Subscript a b pos'] e pos) (.setIx ia ib ie) := by
  intro X3 pins s σ H σ3 M K I hw
  have h1 : (assignEach [.Subscript a b pos'] X.env).map (·.2) = [assign (.Subscript a b pos') X.env] := rfl
  refine wpAny_Assign_stores (thn (h _ pins s σ H σ3 M _ I hw) fun v s1 ⟨d, M1, v1, H1, I1, r, rd, st, q⟩ => ?_) (sole_ok hn) rfl
  rw [h1]
  refine thn (Q := fun _ s' => ∃ M' H', I3 (ct X ca) X M0 pins σ3 M' σ H' s' ∧ TupK H H' ∧ K.nx σ3 M') ?_ fun _ s' ⟨M', H', J, q⟩ => ⟨σ3, M', σ, H', J, q⟩
  show wpAny _ _ (assign (.Subscript a b pos') X.env v) _ _ _
  rw [assign_sub hs]
  refine wpAny_bind (wpAny_holding (thn (ha _ pins s1 σ H1 σ3 M1 _ I1 q) fun ov s2 ⟨x, M2, xv, H2, I2, r2, rd2, st2, q2⟩ => ?_))
  refine wpAny_bind (wpAny_holding (thn (hb _ pins s2 σ H2 σ3 M2 _ I2 q2) fun iv s3 ⟨y, M3, yv, H3, I3', r3, rd3, st3, q3⟩ => ?_))
  refine wpAny_bind (wpAny_standAt (wpAny_bind (wpAny_holding (thn (o_setIx (by have := ok.hu; omega) I3' r2 r3 r (rd2.keep (st3.tupK I2.hp)) rd3 ((rd.keep (st2.tupK I1.hp)).keep (st3.tupK I2.hp)) q3) fun _ s4 ⟨M4, H4, I4, k4, q4⟩ => ?_))))
  exact wpAny_release ⟨M4, H4, I4, (((st.tupK I.hp).trans (st2.tupK I1.hp)).trans (st3.tupK I2.hp)).trans k4, q4⟩
theorem o_del (hu : X.A.units + 10 < cLine) {x y : D} {a b : V} {v u : Value} {k : Mp → Prop} (I : I3 (ct X ca) X M0 pins σ3 M σ H s) (ra : RelV a v) (rb : RelV b u) (hx : RD (ct X ca) H x a) (hy : RD (ct X ca) H y b) (h : wpDel x y M k) :
    wpAny (model X.prog X.w) X.A (delItem v u) (fun _ s' => ∃ M' H', I3 (ct X ca) X M0 pins σ3 M' σ H' s' ∧ TupK H H' ∧ k M') X.xe s := by
  cases x with
  | ref p =>
    have e : a = .ref p := hx; subst e
    cases g : M p with
    | none => simp only [wpDel, g] at h
    | some o =>
      cases o with
      | dct kvs =>
        simp only [wpDel, g] at h
        obtain ⟨⟨hk, hl⟩, q⟩ := h
        obtain ⟨ks, hH, pd, ty⟩ := I.dictAt g
        obtain ⟨kk, rfl, kr⟩ := key_rd hy hk
        cases ra
        obtain ⟨rm, st⟩ := dk_wr I.hp g (pd_drop kr pd)
        exact d_delItem I.inv hH rb (by rw [← (dget_val kr pd).2]; exact hl) fun s' J => ⟨_, _, I.to J rm st, st.tupK I.hp, q⟩
      | dcT kvs =>
        simp only [wpDel, g] at h
        obtain ⟨⟨hk, hl⟩, q⟩ := h
        cases ra
        exact t_delItem hu I g hy rb hk hl fun H' s' I2 st => ⟨_, H', I2, st.tupK I.hp, q⟩
      | _ => simp only [wpDel, g] at h
  | _ => exact h.elim
theorem st_del {a b : Expr} {pos pos' : Pos} {ia ib : E} (ok : Ok3 ca X P cc) (hs : notSlice b = true) (ha : SndEx ca X M0 P a ia) (hb : SndEx ca X M0 P b ib) : SndS ca X M0 P (.Delete [.Subscript a b pos'] pos) (.delIx ia ib) := by
  intro X3 pins s σ H σ3 M K I hw
  refine wpAny_Delete (wpAny_deleteEach_cons (wpAny_delete_Subscript (thn (ha _ pins s σ H σ3 M _ I hw) fun ov s2 ⟨x, M2, xv, H2, I2, r2, rd2, st2, q2⟩ => thn (hb _ pins s2 σ H2 σ3 M2 _ I2 q2) fun iv s3 ⟨y, M3, yv, H3, I3', r3, rd3, st3, q3⟩ => ?_)))
  exact thn (o_del (by have := ok.hu; omega) I3' r2 r3 (rd2.keep (st3.tupK I2.hp)) rd3 q3) fun _ s4 ⟨M4, H4, I4, k4, q4⟩ => wpAny_deleteEach_nil ⟨σ3, M4, σ, H4, I4, ((st2.tupK I.hp).trans (st3.tupK I2.hp)).trans k4, q4⟩
theorem st_retN {pos : Pos} : SndS ca X M0 P (.Return none pos) .retN := by
  intro X3 pins s σ H σ3 M K I hw
  exact wpAny_Return_none ⟨.non, .non, σ3, M, σ, H, I, TupK.refl, rfl, rfl, hw⟩
theorem st_aug {x : Str} {e : Expr} {pos pos' : Pos} {i : Nat} {o : Operator} {o' : BOp} {ie : E} (ok : Ok3 ca X P cc) (hi : cc.slotW x = some i) (ho : cBop o = some o') (h : SndEx ca X M0 P e ie) : SndS ca X M0 P (.AugAssign (.Name x pos') o e pos) (.aug i o' ie) := by
  intro X3 pins s σ H σ3 M K I hw
  obtain ⟨h1, h2, h3⟩ := slotW_ok ok hi
  have eo : o = bop o' := by
    cases o <;> cases o' <;> first | rfl | cases ho
  subst eo
  obtain ⟨d, e1, hw⟩ := hw
  obtain ⟨v, ev, rd⟩ := I.lo.2 i d e1
  obtain ⟨m, hn, hl⟩ := I.inv.loc
  have vis : Vis X.env.scope x := by rcases h2 with k | k; exact .inl k; exact .inr (.inl k)
  obtain ⟨u, r, l⟩ := hl i x v h1 ev vis
  refine wpAny_AugAssign_Name ?_
  have go : wpAny (model X.prog X.w) X.A (eval e X.env) (fun w s₂ => wpAny (model X.prog X.w) X.A (inplaceOp (bop o') u w) (fun r s₃ => wpAny (model X.prog X.w) X.A (storeName X.env x r) (fun _ => SP3 (ct X ca) X M0 pins H K .next) X.xe s₃) X.xe s₂) X.xe s := by
    refine thn (h _ pins s σ H σ3 M _ I hw) fun w s1 ⟨y, M1, yv, H1, I1, r1, rd1, st1, q1⟩ => ?_
    refine thn (o_inp o' (ca := ca) pins s1 σ H1 M0 M1 σ3 d y v yv u w _ I1 r r1 (rd.keep (st1.tupK I.hp)) rd1 q1) fun z s2 ⟨zd, M2, zv, H2, I2, r2, rd2, st2, q2⟩ => ?_
    exact store_ok I2.inv ok.nd h1 h2 r2 (fun s3 J => ⟨_, M2, _, H2, I2.store rd2 J, (st1.tupK I.hp).trans (st2.tupK I1.hp), q2⟩) h3
  rcases l with ⟨hk, hm⟩ | ⟨hk, c, hc, hcell⟩
  · exact wpAny_loadName_local I.inv.ok.kind hk hn hm go
  · rcases hk with hk | hk
    · exact wpAny_loadName_cell I.inv.ok.kind hk hc hcell go
    · have hf : X.env.scope.names.lookup x = some .free := hk
      rcases h2 with k | k <;> (rw [k] at hf; cases hf)
theorem st_if {c : Expr} {a b : List Stmt} {pos : Pos} {ic : T} {ia ib : Ss} (hc : SndTx ca X M0 P c ic) (ha : SndSs ca X M0 P a ia) (hb : SndSs ca X M0 P b ib) : SndS ca X M0 P (.If c a b pos) (.ite ic ia ib) := by
  intro X3 pins s σ H σ3 M K I hw
  refine wpAny_If (thn (hc _ _ pins s σ H σ3 M _ (.inl rfl) I hw) fun d s1 ⟨M1, H1, I1, st, q⟩ => ?_)
  cases d with
  | true => exact thn (ha X3 pins s1 σ H1 σ3 M1 K I1 q) fun _ _ e => e.from (st.tupK I.hp)
  | false => exact thn (hb X3 pins s1 σ H1 σ3 M1 K I1 q) fun _ _ e => e.from (st.tupK I.hp)
theorem st_bad {st : Stmt} : SndS ca X M0 P st .bad := fun X3 pins s σ H σ3 M K I hw => False.elim hw
theorem st_pass {pos : Pos} : SndS ca X M0 P (.Pass pos) .pass := fun X3 pins s σ H σ3 M K I hw => wpAny_Pass ⟨σ3, M, σ, H, I, TupK.refl, hw⟩
theorem st_brk {pos : Pos} : SndS ca X M0 P (.Break pos) .brk := fun X3 pins s σ H σ3 M K I hw => wpAny_Break ⟨σ3, M, σ, H, I, TupK.refl, hw⟩
theorem st_cnt {pos : Pos} : SndS ca X M0 P (.Continue pos) .cnt := fun X3 pins s σ H σ3 M K I hw => wpAny_Continue ⟨σ3, M, σ, H, I, TupK.refl, hw⟩
theorem sts_nil : SndSs ca X M0 P [] .nil := fun X3 pins s σ H σ3 M K I hw => wpAny_execs_nil ⟨σ3, M, σ, H, I, TupK.refl, hw⟩
theorem sts_cons {a : Stmt} {l : List Stmt} {ia : S} {il : Ss} (ha : SndS ca X M0 P a ia) (hl : SndSs ca X M0 P l il) : SndSs ca X M0 P (a :: l) (.cons ia il) := by
  intro X3 pins s σ H σ3 M K I hw
  refine wpAny_execs_cons (thn (ha X3 pins s σ H σ3 M _ I hw) fun f s1 q => ?_)
  cases f with
  | next =>
    obtain ⟨σ', M', σ2, H', I', k, q⟩ := q
    exact thn (hl X3 pins s1 σ2 H' σ' M' K I' q) fun _ _ e => e.from k
  | ret v => exact q
  | brk => exact q
  | cont => exact q
theorem st_wh {c : Expr} {b : List Stmt} {pos : Pos} {ic : T} {ib : Ss} (hp : PassesOwn (model X.prog X.w) X.A X.env X.xe) (hc : SndTx ca X M0 P c ic) (hb : SndSs ca X M0 P b ib) : SndS ca X M0 P (.While c b [] pos) (.wh ic ib) := by
  intro X3 pins s σ H σ3 M K I hw
  obtain ⟨n0, w0⟩ := hw
  refine wpAny_While (codeAny_whileLoop (fun n s' => ∃ σ3' M' σ' H', I3 (ct X ca) X M0 pins σ3' M' σ' H' s' ∧ TupK H H' ∧ whL (fun σ M k => wpT P (fun x M => X3 x σ M) ic σ M k) (fun D σ M => wpSs P ib X3 D σ M) K n σ3' M') ?_ n0 ⟨σ3, M, σ, H, I, TupK.refl, w0⟩)
  rintro n s1 ⟨σ3', M', σ', H', I', k0, w⟩
  cases n with
  | zero => exact False.elim w
  | succ n =>
    refine wpAny_passesOwn hp (thn (hc _ _ pins s1 σ' H' σ3' M' _ (.inl rfl) I' w) fun d s2 ⟨M2, H2, I2, st, q⟩ => ?_)
    have k2 := k0.trans (st.tupK I'.hp)
    cases d with
    | true =>
      rw [if_pos rfl]
      refine wpAny_passesOwn hp (thn (hb X3 pins s2 σ' H2 σ3' M2 _ I2 q) fun f s3 q3 => ?_)
      cases f with
      | next =>
        obtain ⟨σ4, M4, σ5, H4, I4, k4, q4⟩ := q3
        exact ⟨n, Nat.lt_succ_self n, σ4, M4, σ5, H4, I4, k2.trans k4, q4⟩
      | cont =>
        obtain ⟨σ4, M4, σ5, H4, I4, k4, q4⟩ := q3
        exact ⟨n, Nat.lt_succ_self n, σ4, M4, σ5, H4, I4, k2.trans k4, q4⟩
      | brk => obtain ⟨σ4, M4, σ5, H4, I4, k4, q4⟩ := q3; exact ⟨σ4, M4, σ5, H4, I4, k2.trans k4, q4⟩
      | ret v => exact q3.from k2
    | false =>
      rw [if_neg Bool.false_ne_true]
      exact wpAny_execs_nil ⟨σ3', M2, σ', H2, I2, k2, q⟩
end
end L3
end
section
set_option autoImplicit false
set_option linter.all false
set_option maxRecDepth 100000
/-! L3: the for loop -/
namespace L3
open PySem L2 PyProof.Rows
section
variable {ca : Nat → Addr} {X : Cx} {M0 M : Mp} {pins : List (Addr × Obj)} {σ3 : Lo} {σ : L2.St} {H : Hp} {s : Shared} {P : Pr} {cc : CC}
/-! ### for -/
theorem st_for {tg e : Expr} {b : List Stmt} {pos : Pos} {t : Tg} {k : ItK} {es : Es} {ib : Ss} (hp : PassesOwn (model X.prog X.w) X.A X.env X.xe) (hc : X.calm = true) (hs : ∀ x, foldedSetIterable e X.env x = pure x)
    (hi : SndI ca X M0 P tg e k es) (ht : SndTg ca X M0 tg t) (hb : SndSs ca X M0 P b ib) : SndS ca X M0 P (.For tg e b [] pos) (.for t k es ib) := by
  intro X3 pins s σ H σ3 M K I hw
  refine wpAny_For (thn (hi _ pins s σ H σ3 M _ I hw) fun v s1 h1 => thn h1 fun itv s2 h2 => ?_) hs
  obtain ⟨it, fp, tn, J, H2, M2, ds, G, fin, e, I2, T, st2, f2, sp2, hr, hf, w⟩ := h2
  subst e
  have stat : ∀ {H' : Hp}, (∀ b ∈ fp, H' b = none) → ∀ b ∈ fp, FpOk X pins H' b := fun hn b hb => ⟨hn b hb, (f2 b hb).2⟩
  have kH : TupK H H2 := sp2.tupK I.hp
  revert w
  generalize hE : (⟨fun σ M => K.nx σ (fin M), fun d M => K.rt d (fin M), fun σ M => K.nx σ (fin M), fun _ _ => False⟩ : Ends) = KE
  generalize hB : (fun (D : Ends) (σ : Lo) (M : Mp) => wpSs P ib (fun x σ M => X3 x σ (fin M)) D σ M) = B
  intro w
  -- the end of the loop
  have out : ∀ {σ3' : Lo} {M' : Mp} {σ' : L2.St} {H' : Hp} {s' : Shared}, I3 (ct X ca) X M0 pins σ3' M' σ' H' s' → TupK H H' → KE.nx σ3' M' → SP3 (ct X ca) X M0 pins H K .next s' := fun {σ3' M' σ' H' s'} I' k q => by
    subst hE
    obtain ⟨H'', I'', k', _⟩ := hf.2 _ _ _ _ _ _ _ I' k
    exact ⟨σ3', _, σ', H'', I'', k', q⟩
  have I3pin : ∀ {pl : List (Addr × Obj)} {σ3' : Lo} {M' : Mp} {σ' : L2.St} {H' : Hp} {s' : Shared}, I3 (ct X ca) X M0 (pins ++ pl) σ3' M' σ' H' s' → I3 (ct X ca) X M0 pins σ3' M' σ' H' s' := fun I' => ⟨I'.inv.unpinned, I'.lo, I'.hp, I'.st⟩
  refine codeAny_forLoop_any (fun n s' => ∃ i σ3' M' σ' H', n = ds.length - i ∧ i ≤ ds.length ∧ I3 (ct X ca) X M0 pins σ3' M' σ' H' s' ∧ tn i s'.heap ∧ (∀ b ∈ fp, H' b = none) ∧ TupK H2 H' ∧ forL t B G KE (ds.drop i) σ3' M') ?_ (ds.length - 0) ⟨0, σ3, M2, σ, H2, rfl, Nat.zero_le _, I2, st2, fun b hb => (f2 b hb).1, TupK.refl, w⟩
  rintro n s3 ⟨i, σ3', M3, σ', H3, en, hin, I3', st3, fr3, k3, w3⟩
  subst en
  by_cases hlt : i < ds.length
  · rw [List.drop_eq_getElem_cons hlt] at w3
    obtain ⟨g, w3⟩ := w3
    have r3 := (hr H3 M3 k3 I3'.hp g).1 i ds[i] (List.getElem?_eq_getElem hlt)
    refine wpAny_passesOwn hp (thn (T.item X rfl rfl rfl hc i pins s3 σ' H3 X.xe I3'.inv (stat fr3) st3 r3.1) fun r s4 ⟨u, hru, h4⟩ => ?_)
    subst hru
    refine wpAny_passesOwn hp (thn h4 fun _ s5 ⟨x, H5, J5, r5, y5, st5, fr5⟩ => ?_)
    obtain ⟨q1, q2, q3⟩ := r3.2 x H5 y5
    have I5 := I3'.to J5 q1 q2
    have k5 := q2.tupK I3'.hp
    have I5' : I3 (ct X ca) X M0 (pins ++ pinsAt fp s5.heap) σ3' M3 σ' H5 s5 := ⟨I5.inv.pinned (stat fr5) (T.obj _ _ st5), I5.lo, I5.hp, I5.st⟩
    refine wpAny_passesOwn hp (thn (ht _ s5 σ' H5 σ3' M3 _ x u _ I5' r5 q3 w3) fun _ s6 ⟨σ36, σ6, I6, _, q6⟩ => ?_)
    subst hB
    have k36 : TupK H2 H5 := k3.trans k5
    have body := hb _ _ s6 σ6 H5 σ36 M3 _ I6 q6
    refine wpAny_passesOwn hp (thn body fun f s7 q7 => ?_)
    have again : ∀ {σ37 : Lo} {M7 : Mp} {σ7 : L2.St} {H7 : Hp}, I3 (ct X ca) X M0 (pins ++ pinsAt fp s5.heap) σ37 M7 σ7 H7 s7 → TupK H2 H7 → forL t (fun (D : Ends) (σ : Lo) (M : Mp) => wpSs P ib (fun x σ M => X3 x σ (fin M)) D σ M) G KE (ds.drop (i + 1)) σ37 M7 →
        ∃ m, m < ds.length - i ∧ ∃ i' σ3' M' σ' H', m = ds.length - i' ∧ i' ≤ ds.length ∧ I3 (ct X ca) X M0 pins σ3' M' σ' H' s7 ∧ tn i' s7.heap ∧ (∀ b ∈ fp, H' b = none) ∧ TupK H2 H' ∧ forL t (fun (D : Ends) (σ : Lo) (M : Mp) => wpSs P ib (fun x σ M => X3 x σ (fin M)) D σ M) G KE (ds.drop i') σ3' M' := fun {σ37 M7 σ7 H7} I7 k7 w7 => by
      refine ⟨ds.length - (i + 1), by omega, i + 1, σ37, M7, σ7, H7, rfl, hlt, I3pin I7, T.keep _ _ _ st5 fun b hb o e => (I7.inv.pin (b, o) (List.mem_append_right _ (List.mem_append_right _ (mem_pinsAt hb e)))).1, fun b hb => ?_, k7, w7⟩
      obtain ⟨o, e, d⟩ := T.obj _ _ st5 b hb
      exact (I7.inv.pin (b, o) (List.mem_append_right _ (List.mem_append_right _ (mem_pinsAt hb e)))).2.1
    cases f with
    | next => obtain ⟨σ37, M7, σ7, H7, I7, k7, n7⟩ := q7; exact again I7 (k36.trans k7) n7
    | cont => obtain ⟨σ37, M7, σ7, H7, I7, k7, n7⟩ := q7; exact again I7 (k36.trans k7) n7
    | brk => obtain ⟨σ37, M7, σ7, H7, I7, k7, n7⟩ := q7; exact out (I3pin I7) (kH.trans (k36.trans k7)) n7
    | ret v =>
      obtain ⟨d, v7, σ37, M7, σ7, H7, I7, k7, r7, rd7, n7⟩ := q7
      subst hE
      obtain ⟨H'', I'', k'', kw, _⟩ := hf.2 _ _ _ _ _ _ _ (I3pin I7) (kH.trans (k36.trans k7))
      exact ⟨d, v7, σ37, _, σ7, H'', I'', k'', r7, rd7.keep0 kw, n7⟩
  · have ei : i = ds.length := by omega
    subst ei
    rw [List.drop_length] at w3
    obtain ⟨g, w3⟩ := w3
    have stop := (hr H3 M3 k3 I3'.hp g).2
    refine wpAny_passesOwn hp (thn (T.done X rfl rfl rfl hc _ pins s3 σ' H3 X.xe I3'.inv (stat fr3) st3 stop) fun r s4 ⟨hr4, I4⟩ => ?_)
    subst hr4
    exact wpAny_execs_nil (out (I3'.same I4) (kH.trans k3) w3)
end
end L3
end
section
set_option autoImplicit false
set_option linter.all false
set_option maxRecDepth 100000
/-! L3: every compiled statement is sound -/
namespace L3
open PySem L2 PyProof.Rows

theorem comp_inv {n : Nat} {cc : CC} {x : Str} {px : Pos} {e : Expr} {e' : E} (hs : swapC cc x px e = true) (h : cE n cc e = some e') :
    ∃ m ex tg it ifs scope pos k es' t' c' ex', n = m + 1 ∧ e = .ListComp ex [⟨tg, it, ifs, 0⟩] scope pos ∧ blkB cc.N cc.sc scope = true ∧ cI m cc it = some (k, es') ∧ cTg { cc with sc := relC scope cc.sc, cs := false } tg = some t' ∧ cIf m { cc with sc := relC scope cc.sc, cs := false } ifs = some c' ∧
      cE m { cc with sc := relC scope cc.sc, cs := false } ex = some ex' ∧ (itOk k tg && t'.sl.all (fun i => ((ownC cc.N scope).map (·.2)).contains i)) = true ∧ e' = .comp ((ownC cc.N scope).map (·.2)) ex' t' k es' c' := by
  cases n with
  | zero => simp [cE] at h
  | succ m =>
    unfold swapC at hs
    split at hs
    · unfold cE at h
      simp only at h
      obtain ⟨hm, h⟩ := if_some h
      split at h
      · rename_i h1 h2 h3 h4
        obtain ⟨hk, h⟩ := if_some h
        cases h
        exact ⟨m, _, _, _, _, _, _, _, _, _, _, _, rfl, rfl, hm, h1, h2, h3, h4, hk, rfl⟩
      · cases h
    · cases hs
def AllS (n : Nat) : Prop := ∀ (ca : Nat → Addr) (X : Cx) (M0 : Mp) (P : Pr) (cc : CC), Ok3 ca X P cc → PassesOwn (model X.prog X.w) X.A X.env X.xe →
  (∀ (e : Stmt) (i : S), cS n cc e = some i → SndS ca X M0 P e i) ∧ (∀ (es : List Stmt) (i : Ss), cSs n cc es = some i → SndSs ca X M0 P es i)
theorem allSt : ∀ n, AllS n
  | 0 => fun ca X M0 P cc ok hp => ⟨fun e i h => by simp [cS] at h, fun e i h => by simp [cSs] at h⟩
  | n + 1 => fun ca X M0 P cc ok hp => by
    obtain ⟨hS, hSs⟩ := allSt n ca X M0 P cc ok hp
    have hE : ∀ (e : Expr) (i : E), cE n cc e = some i → SndEx ca X M0 P e i := fun e i h X3 => (allE n ca X M0 P cc ok).1 X3 e i h
    have hD : ∀ st : Stmt, SndS ca X M0 P st ((cS n cc st).getD .bad) := fun st => by
      cases e2 : cS n cc st with
      | none => exact st_bad
      | some s' => exact hS _ _ e2
    have hT : ∀ (e : Expr) (i : T), cT n cc e = some i → SndTx ca X M0 P e i := fun e i h X3 => (allE n ca X M0 P cc ok).2.2.1 X3 e i h
    refine ⟨fun e i h => ?_, fun es i h => ?_⟩
    · unfold cS at h
      split at h
      · obtain ⟨hm, h⟩ := if_some h
        split at h
        · rename_i h1
          cases h; exact st_expr hm (hE _ _ h1)
        · cases h
      · cases h; exact st_retN
      · obtain ⟨hm, h⟩ := if_some h
        split at h
        · rename_i h1 h2
          cases h; exact st_del ok hm (hE _ _ h1) (hE _ _ h2)
        · cases h
      · split at h
        · rename_i h1
          cases h; exact st_ret (hE _ _ h1)
        · cases h
      · split at h
        · rename_i hm
          split at h
          · rename_i h1 h2
            cases h; exact st_set ok h1 hm (hE _ _ h2)
          · cases h
        · obtain ⟨hw, h⟩ := if_some h
          split at h
          · rename_i h1 h2
            cases h
            obtain ⟨m, ex, tg, it, ifs, scope, pos, k, es', t', c', ex', rfl, rfl, hm, g1, g2, g3, g4, hk, rfl⟩ := comp_inv hw h2
            rw [ok.N, ok.sc] at hm
            obtain ⟨i1, i2⟩ := (allE m ca X M0 P cc ok).2.2.2.1 _ _ _ _ g1 (Bool.and_eq_true_iff.mp hk).1
            rw [ok.N]
            rw [Bool.and_eq_true] at hk
            rw [ok.N] at hk
            have hk2 := List.all_eq_true.mp hk.2
            exact st_setLc (ownC X.N _) ok h1 hw (blk_ok hm) (fun i hi => by simpa using hk2 i hi) i1 i2 (fun s H C cl fp => cTg_ok (ok_blk ok s H C cl fp) g2) (fun s H C cl fp => (allE m ca _ MAll P _ (ok_blk ok s H C cl fp)).2.2.2.2.1 _ _ g3) (fun s H C cl fp => (allE m ca _ MAll P _ (ok_blk ok s H C cl fp)).1 _ _ _ g4)
          · cases h
      · obtain ⟨hm, h⟩ := if_some h
        split at h
        · rename_i h1 h2
          cases h; exact st_setT (cTg_ok ok h1) hm (hE _ _ h2)
        · cases h
      · obtain ⟨hm, h⟩ := if_some h
        split at h
        · rename_i h1 h2
          cases h; exact st_setFld ok hm (hE _ _ h1) (hE _ _ h2)
        · cases h
      · split at h
        · rename_i h1 h2 h3
          cases h; exact st_augFld ok h2 (hE _ _ h1) (hE _ _ h3)
        · cases h
      · obtain ⟨hm, h⟩ := if_some h
        rw [Bool.and_eq_true] at hm
        split at h
        · rename_i h1 h2 h3
          cases h; exact st_setIx ok hm.1 hm.2 (hE _ _ h1) (hE _ _ h2) (hE _ _ h3)
        · cases h
      · split at h
        · rename_i h1 h2 h3
          cases h; exact st_aug ok h1 h2 (hE _ _ h3)
        · cases h
      · split at h
        · rename_i h1 h2 h3
          cases h; exact st_if (hT _ _ h1) (hSs _ _ h2) (hSs _ _ h3)
        · cases h
      · split at h
        · rename_i h1 h2
          cases h; exact st_wh hp (hT _ _ h1) (hSs _ _ h2)
        · cases h
      · split at h
        · rename_i h1 h2 h3
          obtain ⟨hk, h⟩ := if_some h
          cases h
          obtain ⟨i1, i2⟩ := (allE n ca X M0 P cc ok).2.2.2.1 _ _ _ _ h2 hk
          exact st_for hp ok.hc i2 i1 (cTg_ok ok h1) (hSs _ _ h3)
        · cases h
      · cases h; exact st_pass
      · cases h; exact st_brk
      · cases h; exact st_cnt
      · cases h
    · unfold cSs at h
      split at h
      · rename_i e; cases e
      · cases h; exact sts_nil
      · rename_i e1
        cases e1
        split at h
        · rename_i h2
          cases h
          exact sts_cons (hD _) (hSs _ _ h2)
        · cases h
end L3
end
section
set_option autoImplicit false
set_option linter.all false
set_option maxRecDepth 100000
/-! L3: a def by its body -/
namespace L3
open PySem L2 PyProof.Rows

/-- what the module's names stand for, up to the level k -/
structure GM (C : Ct) (mg : Str → Option Value) (base : Heap) (k : Nat) (P : Pr) (gl : List (Str × GR)) : Prop where
  fn : ∀ x i, gl.lookup x = some (.fn i) → ∃ j f fd ps, j ≤ k ∧ mg x = some (.ref f) ∧ PySem.W.keepIn C.K (.ref f) = true ∧ Binds C.K fd ps [] ∧ FnG C mg base j f fd ps (P.sp i)
  blt : ∀ x, gl.lookup x = some .blt → mg x = none
  cls : ∀ x c i, gl.lookup x = some (.cls c i) → ∃ j f fd ps, j + 1 ≤ k ∧ mg x = some (.ref (C.ca c)) ∧ Mk C.K (C.ca c) f ∧ Binds C.K fd ps [] ∧ FnG C mg base j f fd ps (P.sp i)
  mth : ∀ m c i, gl.lookup (dotted m) = some (.mth c i) → ∃ j f fd ps, j ≤ k ∧ Cls C.K (C.ca c) ∧ Meth C.K (C.ca c) m f ∧ Binds C.K fd ps [] ∧ FnG C mg base j f fd ps (P.sp i)
  fl : ∀ c f, P.fl c f = true → Cls C.K (C.ca c) ∧ NoAttr C.K (C.ca c) f
  con : ∀ x d, gl.lookup x = some (.con d) → ∃ u v, mg x = some u ∧ RelV v u ∧ (∀ H, RD C H d v) ∧ ∀ ds, d = .kt ds → ∃ a o, v = .ref a ∧ C.K.lookup a = some o ∧ o.cls = .type "tuple" ∧ o.dict = none
theorem GM.ok {ca : Nat → Addr} {X : Cx} {k : Nat} {P : Pr} {gl : List (Str × GR)} (g : GM (ct X ca) X.mg X.base k P gl) (r : Room k X.A) : GOk ca X P gl where
  fn := fun x i h => let ⟨j, f, fd, ps, hj, h1, h2, h3, h4⟩ := g.fn x i h; ⟨j, f, fd, ps, h1, h2, h3, r.mono hj, h4⟩
  cls := fun x c i h => let ⟨j, f, fd, ps, hj, h1, h2, h3, h4⟩ := g.cls x c i h; ⟨j, f, fd, ps, h1, h2, h3, r.mono hj, h4⟩
  mth := fun m c i h => let ⟨j, f, fd, ps, hj, h1, h2, h3, h4⟩ := g.mth m c i h; ⟨j, f, fd, ps, h1, h2, h3, r.mono hj, h4⟩
  fl := g.fl
  blt := g.blt
  con := g.con
section
variable {Pg : Program} {w : World} {K : PySem.W.Frag} {ca : Nat → Addr} {mg : Str → Option Value} {base : Heap}
theorem rl_start {C : Ct} {H : Hp} {N : List Str} {ds : List D} {vs : List V} (rd : RDs C H ds vs) : RL C H (startL N.length ds) (L2.start N vs) := by
  have hl := rd.length
  refine ⟨by simp [startL, L2.start, hl], fun i d e => ?_⟩
  unfold startL at e
  by_cases h : i < ds.length
  · rw [List.getElem?_append_left (by simpa using h), List.getElem?_map] at e
    cases g : ds[i]? with
    | none => rw [g] at e; cases e
    | some d' =>
      rw [g] at e
      have e' : d' = d := by simpa using e
      subst e'
      obtain ⟨v, e1, r1⟩ := rd.get g
      refine ⟨v, ?_, r1⟩
      unfold L2.start
      rw [List.getElem?_append_left (by rw [List.length_map, ← hl]; exact h), List.getElem?_map, e1]
      rfl
  · rw [List.getElem?_append_right (by simp; omega)] at e
    rw [List.getElem?_replicate] at e
    split at e <;> cases e
theorem fng_of {f : Addr} {fd : FuncData} {x qual : Str} {st : Stmt} {N ps : List Str} {k n : Nat} {sp : Spec} {P : Pr} {gl : List (Str × GR)} {ir : Ss} (F : C8.Fun K x qual st f fd) (S : FnScope N ps (C8.fnScope st))
    (hir : cSs n ⟨N, C8.fnScope st, gl, true⟩ (C8.fnBody st) = some ir) (sy : SysD K) (len : ∀ ds M Q X, sp ds M Q X → ds.length = ps.length) (hk : Keeps P sp N.length ir) (g : GM ⟨Pg, w, K, ca⟩ mg base k P gl) : FnG ⟨Pg, w, K, ca⟩ mg base (k + 1) f fd ps sp := by
  obtain ⟨oc, od, dV, kV, doc, pm, an, cdv, ct', osl, rfl, lk, hcd⟩ := F.ex
  refine ⟨len, fun A outer s H args us vs ds M Q X3 hr hg e0 hb r rd rm hsp => ?_⟩
  have hl : vs.length = ps.length := by rw [← rd.length]; exact len _ _ _ _ hsp
  have KX : K.In s.heap := e0.mod.kin.keeps fun b o e => (e0.bs b o e).1
  have lim : s.heap.NoLimit := e0.mod.nolimit.keeps fun b o e => (e0.bs b o e).1
  have hkind : ∀ y ∈ ps.zip us, (C8.fnScope st).names.lookup y.1 = some .local ∨ ((C8.fnScope st).names.lookup y.1 = some .cell ∧ ((cellsFrom (s.heap.objs.size + 1) (C8.fnScope st).names []).lookup y.1).isSome = true) := fun ⟨m, v⟩ hy => by
    rcases S.par m (List.of_mem_zip hy).1 with q | q
    · exact .inl q
    · exact .inr ⟨q, PySem.W.cellsFrom_some _ _ _ (.inl q)⟩
  refine codeAny_call_function hr.depth (KX _ _ lk) rfl S.co S.gen rfl (PySem.W.codeRec_of KX hcd) (hb _ _ _ _ ?_)
  refine wpAny_newFunctionEnv_cells S.kind hkind fun env he s1 x1 => ?_
  subst he
  refine ⟨lim.keeps x1.toInCall.keep, codeAny_func ?_⟩
  have I : Inv (cxOf C8.CX0 Pg w K mg base N qual (C8.fnScope st) f cdv A outer s H C8.E0) [] (L2.start N vs) H s1 := inv_start S hr.hd e0 hl r x1
  have I' : Inv (cxOf C8.CX0 Pg w K mg base N qual (C8.fnScope st) f cdv A outer s H C8.E0).nox [] (L2.start N vs) H s1 := I.wish _
  have rX : Room k (cxOf C8.CX0 Pg w K mg base N qual (C8.fnScope st) f cdv A outer s H C8.E0).nox.A := hr.deeper _
  have ok : Ok3 ca (cxOf C8.CX0 Pg w K mg base N qual (C8.fnScope st) f cdv A outer s H C8.E0).nox P ⟨N, C8.fnScope st, gl, true⟩ :=
    ⟨rfl, rfl, S.nd, GM.ok (X := (cxOf C8.CX0 Pg w K mg base N qual (C8.fnScope st) f cdv A outer s H C8.E0).nox) g rX, by have := rX.un; omega, hg, rfl, sy, fun _ _ _ => rfl⟩
  have snd := (allSt n ca _ M P _ ok PassesOwn.never).2 _ _ hir (fun x _ M => X3 x M) [] s1 (L2.start N vs) H (startL N.length ds) M ⟨fun _ M => Q .non M, Q, fun _ _ => False, fun _ _ => False⟩ ⟨I', rl_start rd, rm, Stp.refl⟩ (hk ds M Q X3 hsp)
  refine wpAny_mono snd (fun fl s' hs => ?_) fun e s' hs => False.elim hs
  have fin : ∀ {σ3 : Lo} {σ' : L2.St} {H' : Hp} {M' : Mp} {v : V} {u : Value} {d : D}, I3 ⟨Pg, w, K, ca⟩ (cxOf C8.CX0 Pg w K mg base N qual (C8.fnScope st) f cdv A outer s H C8.E0).nox M [] σ3 M' σ' H' s' → RelV v u → RD ⟨Pg, w, K, ca⟩ H' d v → Q d M' → CE outer Pg w H s (QV ⟨Pg, w, K, ca⟩ H M Q) u s' :=
    fun {σ3 σ' H' M' v u d} J rv rd q => ⟨v, H', J.inv.os, J.inv.bare, J.inv.base, J.inv.hok, rv, d, M', J.hp, J.st, rd, q⟩
  cases fl with
  | ret u =>
    obtain ⟨d, v, σ3, M', σ', H', J, _, rv, rd', q⟩ := hs
    exact fin J rv rd' q
  | next =>
    obtain ⟨σ3, M', σ', H', J, _, q⟩ := hs
    exact fin (v := V.non) (u := Value.none) (d := .non) J rfl rfl q
  | brk =>
    obtain ⟨_, _, _, _, _, _, q⟩ := hs
    exact False.elim q
  | cont =>
    obtain ⟨_, _, _, _, _, _, q⟩ := hs
    exact False.elim q
end
end L3
end
section
set_option autoImplicit false
set_option linter.all false
set_option maxRecDepth 100000
/-! L3: the law's end -/
namespace L3
open PySem L2 PyProof.Rows PySem.Spec

theorem rds_ints {C : Ct} {H : Hp} : ∀ (ns : List Int), RDs C H (ns.map D.int) (ns.map V.int)
  | [] => rfl
  | n :: ns => ⟨.int n, ns.map V.int, rfl, rfl, rds_ints ns⟩
/-- the script's object alone -/
def Sole (a : Addr) (H : Hp) : Prop := ∀ b u, H b = some u → b = a ∧ ∃ ob xs, u = .frz ob (.lst xs)
section
variable {Pg : Program} {w : World} {K : PySem.W.Frag} {ca : Nat → Addr} {mg mb : Str → Option Value} {k : Nat} {fa a : Addr} {fd : FuncData} {x : Str} {sp : Spec} {s₁ : Shared} {vs : List Value} {ns : List Int}
theorem end_core {H : Hp} (hin : K.In s₁.heap) (gns : s₁.heap.Ns mainGlobals mg) (bns : s₁.heap.Ns builtinsNs mb) (bot : ∀ x : Str, x ≠ "__name__" → mb x = bootBuiltins x) (nl : s₁.heap.NoLimit) (ng : s₁.gens = #[])
    (ob : s₁.heap.get? a = some { cls := .type "list", data := .seq vs.toArray }) (room : Room k callerA)
    (F : ∀ base : Heap, K.In base → base.Ns mainGlobals mg → FnG ⟨Pg, w, K, ca⟩ mg base k fa fd [x] sp) (bnd : ∀ (s : Shared) (u : Value), BindsTo s fd ⟨[u], []⟩ [(x, u)])
    (law : ∀ Q X, (∀ M, Q (.bl true) M) → sp [.kl (ns.map .int)] (fun _ => none) Q X)
    (so : Sole a H) (sq : SqF K H a (ns.map V.int)) (hok : HOk Pg w H s₁.heap) (hK : H a ≠ none → K.lookup a = none) :
    codeAny (model Pg w) callerA (.call (.ref fa) ⟨[.ref a], []⟩) (fun r s' => r = .ok (.ret (.bool true)) ∧ OldK s₁.heap s'.heap ∧ s'.os = s₁.os ∧ AllBare s'.gens) s₁ := by
  have only : ∀ {b : Addr}, b ≠ a → H b = none := fun {b} hb => by
    cases q : H b with
    | none => rfl
    | some u => exact absurd (so b u q).1 hb
  have dict0 : ∀ {b : Addr} {o : Obj} {es : Array DictEntry} {ep : Nat}, s₁.heap.get? b = some o → o.data = .dict es ep → H b = none := fun {b o es ep} e dd => by
    by_cases hb : b = a
    · rw [hb, ob] at e
      cases e
      exact nomatch dd
    · exact only hb
  have nsT : ∀ {b : Addr} {m : Str → Option Value}, s₁.heap.Ns b m → (hidT s₁.heap H).Ns b m := fun {b m} z => by
    obtain ⟨o, es, ep, e, dd, rest⟩ := z
    exact ⟨o, es, ep, hidT_get e (dict0 e dd), dd, rest⟩
  have kT : K.In (hidT s₁.heap H) := fun b o e => by
    refine hidT_get (hin b o e) ?_
    by_cases hb : b = a
    · subst hb
      cases q : H b with
      | none => rfl
      | some u =>
        have z := hK (by rw [q]; exact nofun)
        rw [e] at z
        cases z
    · exact only hb
  have md : Mod K mg (hidT s₁.heap H) := ⟨kT, nsT gns, ⟨mb, nsT bns, bot⟩, by obtain ⟨mc, h1, h2⟩ := nl; exact ⟨mc, nsT h1, h2⟩⟩
  have env : Env0 Pg w K mg (hidT s₁.heap H) callerA [] s₁ H := ⟨rfl, md, fun b o => of_hidT, Nat.le_of_eq (hidT_size _ _), trivial, (fun b hb => nomatch hb), hok, .of_eq ng⟩
  have rdl : RDs ⟨Pg, w, K, ca⟩ H [.kl (ns.map .int)] [.ref a] := ⟨.ref a, [], rfl, ⟨a, ns.map V.int, rfl, sq, rds_ints ns⟩, rfl⟩
  have rm0 : RM ⟨Pg, w, K, ca⟩ H (fun _ => none) := fun _ _ e => nomatch e
  refine codeAny_mono ((F _ kT (nsT gns)).run callerA [] s₁ H ⟨[.ref a], []⟩ [.ref a] [.ref a] [.kl (ns.map .int)] (fun _ => none) (fun d _ => d = .bl true) (fun _ _ => False) room rfl env (bnd s₁ (.ref a)) (.cons rfl .nil) rdl rm0 (law _ _ fun _ => rfl)) fun r s' h => ?_
  match r, h with
  | .ok (.ret u), h =>
    obtain ⟨v, H', os, bare, un, hok', rv, d, M', _, _, rd, q⟩ := h
    subst q
    have ev : v = .bl true := rd
    subst ev
    obtain rfl : u = Value.bool true := rv
    refine ⟨rfl, OldK.of_keep fun b o e => ?_, os, bare⟩
    cases q : H b with
    | none => exact un.keep b o e q (fun z => nomatch z) (by simp)
    | some u =>
      obtain ⟨_, ob2, xs, e2⟩ := so b u q
      subst e2
      have e3 := (hok b _ q).1
      rw [e] at e3
      cases e3
      exact (hok' b _ (un.frzs b _ _ q)).1
theorem law_call3 (hin : K.In s₁.heap) (gns : s₁.heap.Ns mainGlobals mg) (bns : s₁.heap.Ns builtinsNs mb) (bot : ∀ x : Str, x ≠ "__name__" → mb x = bootBuiltins x) (nl : s₁.heap.NoLimit) (ng : s₁.gens = #[])
    (ob : s₁.heap.get? a = some { cls := .type "list", data := .seq vs.toArray }) (hi : IntsAre vs ns) (hl : ns.length ≤ sizeLine) (room : Room k callerA)
    (F : ∀ base : Heap, K.In base → base.Ns mainGlobals mg → FnG ⟨Pg, w, K, ca⟩ mg base k fa fd [x] sp) (bnd : ∀ (s : Shared) (u : Value), BindsTo s fd ⟨[u], []⟩ [(x, u)])
    (law : ∀ Q X, (∀ M, Q (.bl true) M) → sp [.kl (ns.map .int)] (fun _ => none) Q X) :
    codeAny (model Pg w) callerA (.call (.ref fa) ⟨[.ref a], []⟩) (fun r s' => r = .ok (.ret (.bool true)) ∧ OldK s₁.heap s'.heap ∧ s'.os = s₁.os ∧ AllBare s'.gens) s₁ := by
  have rv := vals_ints hi
  have len := hi.length
  cases e : K.lookup a with
  | some o =>
    have e1 := hin a o e
    rw [ob] at e1
    cases e1
    exact end_core (H := fun _ => none) hin gns bns bot nl ng ob room F bnd law (fun _ _ z => nomatch z) (.inr ⟨_, vs.toArray, _, e, rfl, rfl, rfl, by rw [List.size_toArray, len]; exact hl, by simpa using rv⟩) (fun _ _ z => nomatch z) fun z => absurd rfl z
  | none =>
    refine end_core (H := fun b => if b = a then some (.frz { cls := .type "list", data := .seq vs.toArray } (.lst (ns.map V.int))) else none) hin gns bns bot nl ng ob room F bnd law (fun b u z => ?_) (.inl ⟨_, if_pos rfl⟩) (fun b u z => ?_) fun _ => e
    · by_cases hb : b = a
      · simp only [if_pos hb] at z
        cases z
        exact ⟨hb, _, _, rfl⟩
      · simp only [if_neg hb] at z
        cases z
    · by_cases hb : b = a
      · simp only [if_pos hb] at z
        cases z
        subst hb
        exact ⟨ob, by rw [List.length_map]; exact hl, vs, _, rv, ob⟩
      · simp only [if_neg hb] at z
        cases z
end
/-- what the head leaves -/
theorem walk3 {l : PySem.W.OpenLaw} {n k : Nat} {q : Program} {loose : List Str} {XP : (Str → Option Value) → Heap → Prop} {YP : World → Heap → Prop} {d : DefRec} {x : Str}
    (hn : l.most = some n) (hn2 : n ≤ sizeLine) (hdf : d.params.defaults = []) (room : Room k callerA)
    (F : ∀ (w : World) (mg : Str → Option Value) (fa : Addr) (h : Heap), YP w h → h.Ns mainGlobals mg → mg d.name = some (.ref fa) →
      ∃ (K : PySem.W.Frag) (fd : FuncData) (ca : Nat → Addr) (sp : Spec), K.In h ∧ (∀ (s : Shared) (u : Value), BindsTo s fd ⟨[u], []⟩ [(x, u)]) ∧ (∀ base : Heap, K.In base → base.Ns mainGlobals mg → FnG ⟨l.prog, w, K, ca⟩ mg base k fa fd [x] sp) ∧
        ∀ ns : List Int, ns.length ≤ n → ∀ Q X, (∀ M, Q (.bl true) M) → sp [.kl (ns.map .int)] (fun _ => none) Q X) :
    PySem.W.WalkO q loose XP YP l.row.toRowW d [] (fun f vs => PySem.call f vs) := by
  refine Att.attach_call hn hdf fun w s₀ s₁ mg mb fa o pm cd doc a vs ns G Y ho hd hcd hmg hobj hints hlen hg => ?_
  obtain ⟨K, fd, ca, sp, hin, h1, h2, h3⟩ := F w mg fa _ Y G.T.g hmg
  exact law_call3 hin G.T.g G.T.b G.T.builtins G.T.nolimit hg hobj hints (Nat.le_trans hlen hn2) room h2 h1 (h3 ns hlen)
end L3
end
section
set_option autoImplicit false
set_option linter.all false
set_option maxRecDepth 100000
/-! L3: the head's facts: defs, free names, constants -/
namespace L3
open PySem L2 PyProof.Rows PySem.Spec

abbrev Al3 : Type := He.AlD × Bool
def obs3 (n : Nat) (fa : List He.Fa) (fn : List He.DefD) (ex : PySem.W.Frag → Bool) (g : Addr → Option Obj) : Al3 := (He.obsD fa fn (He.frG g (sysModules :: He.asD g n)), ex (He.frG g (sysModules :: He.asD g n)))
structure Says3 (fa : List He.Fa) (fn : List He.DefD) (ex : PySem.W.Frag → Bool) (K : PySem.W.Frag) : Prop where
  d : He.SaysD fa fn K
  x : ex K = true
def hook3 (n : Nat) (fa : List He.Fa) (fn : List He.DefD) (ex : PySem.W.Frag → Bool) : PySem.W.Hook where
  α := Al3
  obs := fun s => obs3 n fa fn ex s.heap.get?
  val := fun _ => (He.valD fn, true)
  says := fun _ h => ∃ K : PySem.W.Frag, K.In h ∧ Says3 fa fn ex K
  of := fun _ _ e => ⟨_, He.frG_in, (Prod.mk.inj e).1, (Prod.mk.inj e).2⟩
  keeps := fun _ _ _ ⟨K, hK, c⟩ k => ⟨K, PySem.W.Frag.In.keeps hK k, c⟩
theorem obs3_eq {n : Nat} {fa : List He.Fa} {fn : List He.DefD} {ex : PySem.W.Frag → Bool} {g : Addr → Option Obj} {s : Shared} (h : ∀ a, g a = s.heap.get? a) : obs3 n fa fn ex g = (hook3 n fa fn ex).obs s := by
  have e : g = s.heap.get? := funext h
  subst e
  rfl
/-- a tuple of plain values by a module's name -/
def DvD : He.Dv → Option D
  | .non => some .non
  | .bl b => some (.bl b)
  | .int i => some (.int i)
  | .str x => some (.str x)
  | _ => none
def conT (K : PySem.W.Frag) (x : Str) (vs : List He.Dv) : Bool := He.tupB K x vs && (He.Fa.glo x).ok K
theorem dvs_rd {C : Ct} {H : Hp} : ∀ {vs : List He.Dv} {ds : List D}, vs.map DvD = ds.map some → RDs C H ds (vs.map (He.Dv.v C.K))
  | [], [], _ => rfl
  | [], _ :: _, h => by cases h
  | _ :: _, [], h => by cases h
  | v :: vs, d :: ds, h => by
    have h' : DvD v :: vs.map DvD = some d :: ds.map some := h
    injection h' with h1 h2
    refine ⟨v.v C.K, vs.map (He.Dv.v C.K), rfl, ?_, dvs_rd h2⟩
    cases v <;> first | (cases h1; rfl) | cases h1
def tupN (K : PySem.W.Frag) (x : Str) : Bool := match K.lookup (He.ga K x) with
  | some ⟨.type c, none, _, _⟩ => decide (c = "tuple")
  | _ => false
theorem tupN_ok {K : PySem.W.Frag} {x : Str} (h : tupN K x = true) : ∃ o, K.lookup (He.ga K x) = some o ∧ o.cls = .type "tuple" ∧ o.dict = none := by
  unfold tupN at h
  cases q : K.lookup (He.ga K x) with
  | none => rw [q] at h; cases h
  | some o =>
    obtain ⟨oc, od, dt, sl⟩ := o
    rw [q] at h
    cases oc with
    | type c => cases od with
      | none =>
        have e : c = "tuple" := of_decide_eq_true h
        exact ⟨_, rfl, by rw [e], rfl⟩
      | some _ => cases h
    | _ => cases od <;> cases h
def sysB (K : PySem.W.Frag) : Bool := match K.lookup sysModules with
  | some ⟨.type c, _, _, _⟩ => decide (c = "dict")
  | _ => false
theorem sysB_ok {K : PySem.W.Frag} (h : sysB K = true) : SysD K := by
  unfold sysB at h
  cases q : K.lookup sysModules with
  | none => rw [q] at h; cases h
  | some o =>
    obtain ⟨oc, od, dt, sl⟩ := o
    rw [q] at h
    cases oc with
    | type c =>
      have e : c = "dict" := of_decide_eq_true h
      exact ⟨_, q, by rw [e]⟩
    | _ => cases h
theorem con_ok {C : Ct} {h : Heap} {mg : Str → Option Value} {x : Str} {vs : List He.Dv} {ds : List D} (X : C.K.In h) (G : h.Ns mainGlobals mg) (c : conT C.K x vs = true) (n : tupN C.K x = true) (e : vs.map DvD = ds.map some) : ∃ u v, mg x = some u ∧ RelV v u ∧ (∀ H, RD C H (.kt ds) v) ∧ ∀ es, D.kt ds = .kt es → ∃ a o, v = .ref a ∧ C.K.lookup a = some o ∧ o.cls = .type "tuple" ∧ o.dict = none := by
  obtain ⟨c1, c2⟩ := He.ba c
  obtain ⟨o, h1, h2, h3⟩ := tupN_ok n
  exact ⟨_, .ref (He.ga C.K x), He.glo_ok X G c2, rfl, fun H => ⟨_, _, rfl, He.tupB_ok c1 _, dvs_rd e⟩, fun es _ => ⟨_, o, rfl, h1, h2, h3⟩⟩
theorem fun_of {K : PySem.W.Frag} {x q : Str} {st : Stmt} {f : Addr} {fd : FuncData} (F : FunD K x q (C8.fnArgs st) (C8.fnBody st) (C8.fnScope st) [] [] f fd) : C8.Fun K x q st f fd := by
  obtain ⟨oc, od, dV, kV, doc, pm, an, cdv, ct, osl, e, lk, hcd, _, _⟩ := F.ex
  exact ⟨oc, od, dV, kV, doc, pm, an, cdv, ct, osl, e, lk, hcd⟩
end L3
end
section
set_option autoImplicit false
set_option linter.all false
set_option maxRecDepth 100000
/-! L3: a law from its defs' promises -/
namespace L3
open PySem L2 PyProof.Rows PySem.Spec

/-- a def of the module: name, its class (by place), statement, its names by slot, its parameters, its body in the small language -/
structure DefP where
  x : Str
  cl : Option Nat
  st : Stmt
  N : List Str
  ps : List Str
  ir : Ss
/-- the module's data: defs, other names, classes, their fields -/
structure Md where
  ds : List DefP
  gl : List (Str × GR)
  cls : List Str
  fls : List (Nat × Str)
def Md.cn (m : Md) (c : Nat) : Str := m.cls.getD c Str.empty
def Md.at_ (m : Md) (d : DefP) : Str × Option Str := match d.cl with
  | none => (d.x, none)
  | some c => (m.cn c, some d.x)
def Md.qual (m : Md) (d : DefP) : Str := match d.cl with
  | none => d.x
  | some c => m.cn c ++ "." ++ d.x
def initN : Str := "__init__"
def Md.row (m : Md) (d : DefP) (j : Nat) : Str × GR := match d.cl with
  | none => (d.x, .fn j)
  | some c => if d.x = initN then (m.cn c, .cls c j) else (dotted d.x, .mth c j)
def Md.glk (m : Md) (i : Nat) : List (Str × GR) := ((m.ds.take i).zipIdx.map fun p => m.row p.1 p.2) ++ m.gl
def gOther (gl : List (Str × GR)) : Bool := gl.all fun p => match p.2 with
  | .blt => true
  | .con _ => true
  | _ => false
def Md.fl (m : Md) (c : Nat) (f : Str) : Bool := m.fls.any fun p => p.1 == c && p.2 == f
/-- what stands in the text alone -/
structure StP (P : Pr) (m : Md) (i : Nat) (d : DefP) : Prop where
  sc : FnScope d.N d.ps (C8.fnScope d.st)
  ir : cSs 200 ⟨d.N, C8.fnScope d.st, m.glk i, true⟩ (C8.fnBody d.st) = some d.ir
  len : ∀ xs M Q X, P.sp i xs M Q X → xs.length = d.ps.length
  ok : Keeps P (P.sp i) d.N.length d.ir
  bd : ∀ (kV doc pm : Value) (an : Option Addr) (cdv ct : Value) (us : List Value), us.length = d.ps.length → bindArgs (PySem.W.fnOf d.x (m.qual d) (C8.fnArgs d.st) (C8.fnBody d.st) (C8.fnScope d.st) .none kV doc pm an cdv ct) ⟨us, []⟩ = pure (d.ps.zip us)
def AllD (p : Nat → DefP → Prop) : Nat → List DefP → Prop
  | _, [] => True
  | i, d :: ds => p i d ∧ AllD p (i + 1) ds
theorem AllD.get {p : Nat → DefP → Prop} : ∀ {ds : List DefP} {j i : Nat} {d : DefP}, AllD p j ds → ds[i]? = some d → p (j + i) d
  | [], j, i, d, h, e => by simp at e
  | d' :: ds, j, 0, d, h, e => by
    have : d' = d := by simpa using e
    subst this
    exact h.1
  | d' :: ds, j, i + 1, d, h, e => by
    have := AllD.get (i := i) (d := d) h.2 (by simpa using e)
    rw [show j + (i + 1) = j + 1 + i by omega]
    exact this
/-! ### constants -/
def dvOf : D → He.Dv
  | .non => .non
  | .bl b => .bl b
  | .int i => .int i
  | .str x => .str x
  | _ => .ty ""
def D.flat0 : D → Bool
  | .non => true
  | .bl _ => true
  | .int _ => true
  | .str _ => true
  | _ => false
def conX (K : PySem.W.Frag) (x : Str) : D → Bool
  | .int i => (He.Fa.int x i).ok K
  | .str z => (He.Fa.str x z).ok K
  | .kt ds => (conT K x (ds.map dvOf) && ds.all D.flat0) && tupN K x
  | _ => false
theorem dv_all : ∀ {ds : List D}, ds.all D.flat0 = true → (ds.map dvOf).map DvD = ds.map some
  | [], _ => rfl
  | d :: ds, h => by
    have h' : (d.flat0 && ds.all D.flat0) = true := h
    obtain ⟨h1, h2⟩ := He.ba h'
    show DvD (dvOf d) :: (ds.map dvOf).map DvD = some d :: ds.map some
    rw [dv_all h2]
    congr 1
    cases d <;> first | rfl | cases h1
theorem conX_ok {C : Ct} {h : Heap} {mg : Str → Option Value} {x : Str} {d : D} (X : C.K.In h) (G : h.Ns mainGlobals mg) (c : conX C.K x d = true) : ∃ u v, mg x = some u ∧ RelV v u ∧ (∀ H, RD C H d v) ∧ ∀ es, d = .kt es → ∃ a o, v = .ref a ∧ C.K.lookup a = some o ∧ o.cls = .type "tuple" ∧ o.dict = none := by
  cases d with
  | int i =>
    obtain ⟨t, e⟩ := He.int_ok X G c
    exact ⟨_, .int i, e, ⟨t, rfl⟩, fun _ => rfl, fun _ z => nomatch z⟩
  | str z =>
    obtain ⟨t, e⟩ := He.str_ok X G c
    exact ⟨_, .str z, e, ⟨t, rfl⟩, fun _ => rfl, fun _ z => nomatch z⟩
  | kt ds =>
    obtain ⟨c1, c3⟩ := He.ba c
    obtain ⟨c1, c2⟩ := He.ba c1
    exact con_ok X G c1 c3 (dv_all c2)
  | _ => cases c
/-! ### what is asked of the head -/
def freeOf (gl : List (Str × GR)) : List Str := gl.filterMap fun p => match p.2 with
  | .blt => some p.1
  | _ => none
def Md.fact (m : Md) (d : DefP) : He.Fa := match d.cl with
  | none => .glo d.x
  | some c => if d.x = initN then .mkr (m.cn c) else .meth (m.cn c) d.x
def Md.fa (m : Md) : List He.Fa := m.ds.map m.fact ++ ((freeOf m.gl).map He.Fa.free ++ (m.cls.map He.Fa.glo ++ (m.cls.map He.Fa.cls ++ m.fls.map fun p => He.Fa.noat (m.cn p.1) p.2)))
def Md.fn (m : Md) : List He.DefD := m.ds.map fun d => ⟨m.at_ d, d.x, m.qual d, C8.fnArgs d.st, C8.fnBody d.st, C8.fnScope d.st, [], []⟩
def Md.ex (m : Md) (K : PySem.W.Frag) : Bool := sysB K && m.gl.all fun p => match p.2 with
  | .con d => conX K p.1 d
  | _ => true
/-- the fields' classes are there -/
def Md.flOk (m : Md) : Bool := m.fls.all fun p => decide (p.1 < m.cls.length)
abbrev hookOf (m : Md) : PySem.W.Hook := hook3 5 m.fa m.fn m.ex
def obOf (m : Md) (s : PySem.W.SharedT) : Al3 := obs3 5 m.fa m.fn m.ex (HandSHeadRun.getT s)
theorem obOf_eq (m : Md) (s : PySem.W.SharedT) : obOf m s = (hookOf m).obs s.abs := obs3_eq (HandSHeadRun.getT_eq s)
section
variable {Pg : Program} {w : World} {K : PySem.W.Frag} {mg : Str → Option Value} {base h : Heap} {P : Pr} {m : Md}
def Md.ca (m : Md) (K : PySem.W.Frag) (c : Nat) : Addr := He.ga K (m.cn c)
theorem fact_in {fa : List He.Fa} {fn : List He.DefD} {f : He.Fa} (c : He.SaysD fa fn K) (h : f ∈ fa) : f.ok K = true := by
  obtain ⟨i, e⟩ := List.getElem?_of_mem h
  exact c.fact i e
theorem fact_of (c : Says3 m.fa m.fn m.ex K) {i : Nat} {d : DefP} (e : m.ds[i]? = some d) : (m.fact d).ok K = true :=
  fact_in c.d (List.mem_append_left _ (List.mem_map.mpr ⟨d, List.mem_of_getElem? e, rfl⟩))
theorem def_of (c : Says3 m.fa m.fn m.ex K) {i : Nat} {d : DefP} (e : m.ds[i]? = some d) : ∃ fd, FunD K d.x (m.qual d) (C8.fnArgs d.st) (C8.fnBody d.st) (C8.fnScope d.st) [] [] (He.fAd K (m.at_ d)) fd := by
  obtain ⟨fd, F⟩ := c.d.def_ i (d := ⟨m.at_ d, d.x, m.qual d, C8.fnArgs d.st, C8.fnBody d.st, C8.fnScope d.st, [], []⟩) (by show (m.ds.map _)[i]? = _; rw [List.getElem?_map, e]; rfl)
  exact ⟨fd, F⟩
theorem dotted_inj {a b : Str} (h : dotted a = dotted b) : a = b := by
  have h2 : #[46] ++ a.cps = #[46] ++ b.cps := congrArg Str.cps h
  obtain ⟨x⟩ := a
  obtain ⟨y⟩ := b
  congr 1
  exact Array.append_right_inj _ |>.mp h2
theorem cls_at (hc : m.flOk = true) (X : K.In h) (G : h.Ns mainGlobals mg) (c : Says3 m.fa m.fn m.ex K) (hP : P.fl = m.fl) (i : Nat) (f : Str) (hf : P.fl i f = true) : Cls K (m.ca K i) ∧ NoAttr K (m.ca K i) f := by
  rw [hP] at hf
  obtain ⟨p, hp, e⟩ := List.any_eq_true.mp hf
  rw [Bool.and_eq_true] at e
  have e1 : p.1 = i := by simpa using e.1
  have e2 : p.2 = f := by simpa using e.2
  subst e1 e2
  have hl : p.1 < m.cls.length := of_decide_eq_true (List.all_eq_true.mp hc p hp)
  have hm : m.cn p.1 ∈ m.cls := by
    unfold Md.cn
    rw [List.getD_eq_getElem?_getD, List.getElem?_eq_getElem hl]
    exact List.getElem_mem hl
  exact ⟨He.cls_ok (fact_in c.d (List.mem_append_right _ (List.mem_append_right _ (List.mem_append_right _ (List.mem_append_left _ (List.mem_map.mpr ⟨_, hm, rfl⟩)))))),
    He.noat_ok (fact_in c.d (List.mem_append_right _ (List.mem_append_right _ (List.mem_append_right _ (List.mem_append_right _ (List.mem_map.mpr ⟨p, hp, rfl⟩))))))⟩
/-- the classes that have a def stand among the classes -/
def Md.clOk (m : Md) : Bool := m.ds.all fun d => match d.cl with
  | none => true
  | some c => decide (c < m.cls.length)
/-- every def keeps its promise, level by level -/
theorem all_fng (hc : m.flOk = true) (hd : m.clOk = true) (hP : P.fl = m.fl) (X : K.In h) (G : h.Ns mainGlobals mg) (c : Says3 m.fa m.fn m.ex K) (go : gOther m.gl = true) (S : AllD (StP P m) 0 m.ds) : ∀ (i : Nat) (d : DefP) (fd : FuncData), m.ds[i]? = some d → FunD K d.x (m.qual d) (C8.fnArgs d.st) (C8.fnBody d.st) (C8.fnScope d.st) [] [] (He.fAd K (m.at_ d)) fd →
    FnG ⟨Pg, w, K, m.ca K⟩ mg base (2 * i + 1) (He.fAd K (m.at_ d)) fd d.ps (P.sp i) := by
  intro i
  obtain ⟨cx1, cx2⟩ := He.ba (show (sysB K && m.gl.all fun p => match p.2 with | .con d => conX K p.1 d | _ => true) = true from c.x)
  have cnM : ∀ {j : Nat} {d : DefP} {k : Nat}, m.ds[j]? = some d → d.cl = some k → m.cn k ∈ m.cls := fun {j d k} e ek => by
    have z := List.all_eq_true.mp hd d (List.mem_of_getElem? e)
    rw [ek] at z
    have hl : k < m.cls.length := of_decide_eq_true z
    unfold Md.cn
    rw [List.getD_eq_getElem?_getD, List.getElem?_eq_getElem hl]
    exact List.getElem_mem hl
  have gloC : ∀ {x : Str}, x ∈ m.cls → mg x = some (.ref (He.ga K x)) := fun {x} hx => He.glo_ok X G (fact_in c.d (List.mem_append_right _ (List.mem_append_right _ (List.mem_append_left _ (List.mem_map.mpr ⟨x, hx, rfl⟩)))))
  have clsC : ∀ {x : Str}, x ∈ m.cls → Cls K (He.ga K x) := fun {x} hx => He.cls_ok (fact_in c.d (List.mem_append_right _ (List.mem_append_right _ (List.mem_append_right _ (List.mem_append_left _ (List.mem_map.mpr ⟨x, hx, rfl⟩))))))
  induction i using Nat.strongRecOn with
  | ind i ih =>
    intro d fd e F
    have s := S.get e
    rw [Nat.zero_add] at s
    -- a row of the names is a def below
    have below : ∀ {x : Str} {g : GR}, (m.glk i).lookup x = some g → ((x, g) ∈ m.gl) ∨ ∃ (j : Nat) (d' : DefP), j < i ∧ m.ds[j]? = some d' ∧ m.row d' j = (x, g) := fun {x g} hx => by
      rcases List.mem_append.mp (PySem.mem_of_lookup hx) with hm | hm
      · obtain ⟨⟨d', j'⟩, hm2, ee⟩ := List.mem_map.mp hm
        obtain ⟨_, hlt, e'⟩ := List.mem_zipIdx hm2
        have hji : j' < i := by rw [List.length_take] at hlt; omega
        refine .inr ⟨j', d', hji, ?_, ee⟩
        rw [e', List.getElem_take]
        simp only [Nat.sub_zero]
        exact List.getElem?_eq_getElem _
      · exact .inl hm
    have other : ∀ {x : Str} {g : GR}, (x, g) ∈ m.gl → g = .blt ∨ ∃ v, g = .con v := fun {x g} hm => by
      have := List.all_eq_true.mp go _ hm
      cases g with
      | blt => exact .inl rfl
      | con v => exact .inr ⟨v, rfl⟩
      | _ => cases this
    have sub : ∀ {j : Nat} {d' : DefP}, j < i → m.ds[j]? = some d' → ∃ fd', PySem.W.keepIn K (.ref (He.fAd K (m.at_ d'))) = true ∧ Binds K fd' d'.ps [] ∧ FnG ⟨Pg, w, K, m.ca K⟩ mg base (2 * j + 1) (He.fAd K (m.at_ d')) fd' d'.ps (P.sp j) := fun {j d'} hj e' => by
      obtain ⟨fd', F'⟩ := def_of c e'
      have s' := S.get e'
      rw [Nat.zero_add] at s'
      exact ⟨fd', F'.kp, F'.bindsN s'.bd, ih j hj d' fd' e' F'⟩
    refine fng_of (k := 2 * i) (fun_of F) s.sc s.ir (sysB_ok cx1) s.len s.ok ⟨fun x j hx => ?_, fun x hx => ?_, fun x k j hx => ?_, fun x k j hx => ?_, fun k f hf => cls_at hc X G c hP k f hf, fun x v hx => ?_⟩
    · rcases below hx with hm | ⟨j', d', hj, e', er⟩
      · rcases other hm with z | ⟨v, z⟩ <;> cases z
      · unfold Md.row at er
        cases q : d'.cl with
        | some k => rw [q] at er; simp only at er; split at er <;> (have := (Prod.mk.inj er).2; cases this)
        | none =>
          rw [q] at er
          cases er
          obtain ⟨fd', h1, h2, h3⟩ := sub hj e'
          have ea : m.at_ d' = (d'.x, none) := by unfold Md.at_; rw [q]
          have f1 := fact_of c e'
          unfold Md.fact at f1
          rw [q] at f1
          rw [ea] at h1 h3
          exact ⟨2 * j + 1, _, fd', d'.ps, by omega, He.glo_ok X G f1, h1, h2, h3⟩
    · rcases below hx with hm | ⟨j', d', hj, e', er⟩
      · exact He.free_ok X G (fact_in c.d (List.mem_append_right _ (List.mem_append_left _ (List.mem_map.mpr ⟨x, List.mem_filterMap.mpr ⟨_, hm, rfl⟩, rfl⟩))))
      · unfold Md.row at er
        cases q : d'.cl with
        | some k => rw [q] at er; simp only at er; split at er <;> (have := (Prod.mk.inj er).2; cases this)
        | none => rw [q] at er; have := (Prod.mk.inj er).2; cases this
    · rcases below hx with hm | ⟨j', d', hj, e', er⟩
      · rcases other hm with z | ⟨v, z⟩ <;> cases z
      · unfold Md.row at er
        cases q : d'.cl with
        | none => rw [q] at er; have := (Prod.mk.inj er).2; cases this
        | some k' =>
          rw [q] at er
          simp only at er
          split at er
          · rename_i hi
            obtain ⟨er1, er2⟩ := Prod.mk.inj er
            cases er2
            subst er1
            obtain ⟨fd', h1, h2, h3⟩ := sub hj e'
            have ea : m.at_ d' = (m.cn k, some d'.x) := by unfold Md.at_; rw [q]
            have f1 := fact_of c e'
            unfold Md.fact at f1
            rw [q] at f1
            simp only at f1
            rw [if_pos hi] at f1
            rw [ea] at h3
            have ef : He.fAd K (m.cn k, some d'.x) = He.ma K (He.ga K (m.cn k)) "__init__" := by rw [hi]; rfl
            rw [ef] at h3
            exact ⟨2 * j + 1, _, fd', d'.ps, by omega, gloC (cnM e' q), He.mkr_ok f1, h2, h3⟩
          · have := (Prod.mk.inj er).2; cases this
    · rcases below hx with hm | ⟨j', d', hj, e', er⟩
      · rcases other hm with z | ⟨v, z⟩ <;> cases z
      · unfold Md.row at er
        cases q : d'.cl with
        | none => rw [q] at er; have := (Prod.mk.inj er).2; cases this
        | some k' =>
          rw [q] at er
          simp only at er
          split at er
          · have := (Prod.mk.inj er).2; cases this
          · rename_i hi
            obtain ⟨er1, er2⟩ := Prod.mk.inj er
            cases er2
            have ex := dotted_inj er1
            subst ex
            obtain ⟨fd', h1, h2, h3⟩ := sub hj e'
            have ea : m.at_ d' = (m.cn k, some d'.x) := by unfold Md.at_; rw [q]
            have f1 := fact_of c e'
            unfold Md.fact at f1
            rw [q] at f1
            simp only at f1
            rw [if_neg hi] at f1
            rw [ea] at h3
            exact ⟨2 * j + 1, _, fd', d'.ps, by omega, clsC (cnM e' q), He.meth_ok f1, h2, h3⟩
    · rcases below hx with hm | ⟨j', d', hj, e', er⟩
      · exact conX_ok (C := ⟨Pg, w, K, m.ca K⟩) X G (List.all_eq_true.mp cx2 _ hm)
      · unfold Md.row at er
        cases q : d'.cl with
        | some k => rw [q] at er; simp only at er; split at er <;> (have := (Prod.mk.inj er).2; cases this)
        | none => rw [q] at er; have := (Prod.mk.inj er).2; cases this
end
/-- the law: its head's call case -/
theorem hc3 {l : PySem.W.OpenLaw} {n i : Nat} {q : Program} {loose : List Str} {XP : (Str → Option Value) → Heap → Prop} {dr : DefRec} {x : Str} {P : Pr} {m : Md} {dl : DefP}
    (hn : l.most = some n) (hn2 : n ≤ sizeLine) (hdf : dr.params.defaults = []) (hc : (m.flOk && m.clOk && gOther m.gl) = true) (hP : P.fl = m.fl) (S : AllD (StP P m) 0 m.ds) (hl : m.ds[i]? = some dl) (hcl : dl.cl = none) (hp : dl.ps = [x]) (hx : dr.name = dl.x) (room : Room (2 * i + 1) callerA)
    (fin : ∀ ns : List Int, ns.length ≤ n → ∀ Q X, (∀ M, Q (.bl true) M) → P.sp i [.kl (ns.map .int)] (fun _ => none) Q X) :
    PySem.W.WalkO q loose XP (hookOf m).says l.row.toRowW dr [] (fun f vs => PySem.call f vs) := by
  rw [Bool.and_eq_true, Bool.and_eq_true] at hc
  obtain ⟨⟨hc1, hc2⟩, hc3⟩ := hc
  refine walk3 (x := x) (k := 2 * i + 1) hn hn2 hdf room fun w mg fa h Y G hmg => ?_
  obtain ⟨K, KX, c⟩ := Y
  obtain ⟨fd, F⟩ := def_of c hl
  have ea : m.at_ dl = (dl.x, none) := by unfold Md.at_; rw [hcl]
  have f1 := fact_of c hl
  unfold Md.fact at f1
  rw [hcl] at f1
  rw [hx] at hmg
  have e : some (Value.ref fa) = some (.ref (He.ga K dl.x)) := hmg.symm.trans (He.glo_ok KX G f1)
  cases e
  have s := S.get hl
  rw [Nat.zero_add] at s
  refine ⟨K, fd, m.ca K, P.sp i, KX, fun s' u => ?_, fun base _ _ => ?_, fin⟩
  · have b := FunD.bindsA (ps := dl.ps) F s.bd s' [u] (by rw [hp]; rfl)
    rw [hp] at b
    exact b
  · have g := all_fng (Pg := l.prog) (w := w) (base := base) hc1 hc2 hP KX G c hc3 S i dl fd hl F
    rw [hp, ea] at g
    exact g
end L3
end
section
set_option autoImplicit false
set_option linter.all false
set_option maxRecDepth 100000
/-! L3: facts for the readings: loops by an invariant, text of data -/
namespace L3
open PySem

section
variable {t : Tg} {G : Mp → Prop} {K : Ends}
/-- a for loop by what holds ahead of each turn -/
theorem forL_inv {body : Ends → Lo → Mp → Prop} {xs : List D} {σ : Lo} {M : Mp} (I : Nat → Lo → Mp → Prop) (h0 : I 0 σ M)
    (step : ∀ (i : Nat) (x : D) (σ : Lo) (M : Mp) (nx : Lo → Mp → Prop), xs[i]? = some x → I i σ M → (∀ σ' M', I (i + 1) σ' M' → nx σ' M') → G M ∧ wpTg t x σ M fun σ1 => body ⟨nx, K.rt, K.nx, nx⟩ σ1 M)
    (done : ∀ σ M, I xs.length σ M → G M ∧ K.nx σ M) : forL t body G K xs σ M := by
  have go : ∀ (l : List D) (i : Nat) (σ : Lo) (M : Mp), xs.drop i = l → i ≤ xs.length → I i σ M → forL t body G K l σ M := by
    intro l
    induction l with
    | nil =>
      intro i σ M e hi h
      have : xs.length ≤ i := List.drop_eq_nil_iff.mp e
      have e2 : i = xs.length := by omega
      subst e2
      exact done σ M h
    | cons x l ih =>
      intro i σ M e hi h
      have hx : xs[i]? = some x := by
        have := congrArg List.head? e
        rw [List.head?_drop] at this
        exact this
      have hl : xs.drop (i + 1) = l := by
        have := congrArg List.tail e
        rw [List.tail_drop] at this
        exact this
      have hlt : i < xs.length := (List.getElem?_eq_some_iff.mp hx).1
      exact step i x σ M _ hx h fun σ' M' h' => ih (i + 1) σ' M' hl hlt h'
  exact go xs 0 σ M rfl (Nat.zero_le _) h0
/-- a while loop by a measure -/
theorem whL_inv {c : Lo → Mp → (Bool → Mp → Prop) → Prop} {body : Ends → Lo → Mp → Prop} {σ : Lo} {M : Mp} (I : Nat → Lo → Mp → Prop) (n : Nat) (h0 : I n σ M)
    (step : ∀ (n : Nat) (σ : Lo) (M : Mp) (nx : Lo → Mp → Prop), I n σ M → (∀ m σ' M', m < n → I m σ' M' → nx σ' M') → c σ M fun b M1 => if b = true then body ⟨nx, K.rt, K.nx, nx⟩ σ M1 else K.nx σ M1) : ∃ n, whL c body K n σ M := by
  have go : ∀ (f n : Nat) (σ : Lo) (M : Mp), n < f → I n σ M → whL c body K f σ M := by
    intro f
    induction f with
    | zero => intro n σ M h; omega
    | succ f ih => intro n σ M h hI; exact step n σ M _ hI fun m σ' M' hm h' => ih m σ' M' (by omega) h'
  exact ⟨n + 1, go (n + 1) n σ M (by omega) h0⟩
theorem whL_any {c : Lo → Mp → (Bool → Mp → Prop) → Prop} {body : Ends → Lo → Mp → Prop} {σ : Lo} {M : Mp} (h : ∃ n, whL c body K n σ M) : ∃ n, whL c body K n σ M := h
end
theorem dRange_get' {lo hi : Int} {i : Nat} {d : D} (h : (dRange lo hi)[i]? = some d) : i < (hi - lo).toNat ∧ d = .int (lo + (i : Int)) := by
  unfold dRange at h
  rw [List.getElem?_map] at h
  by_cases hi' : i < (hi - lo).toNat
  · rw [List.getElem?_range hi'] at h
    cases h
    exact ⟨hi', rfl⟩
  · rw [List.getElem?_eq_none (by simp; omega)] at h
    cases h
theorem dRange_len {lo hi : Int} : (dRange lo hi).length = (hi - lo).toNat := by simp [dRange]
theorem mset_mset {M : Mp} {a : Addr} {o p : MO} : mset (mset M a o) a p = mset M a p := by
  funext b
  by_cases h : b = a
  · subst h; rw [mset_same, mset_same]
  · rw [mset_ne h, mset_ne h, mset_ne h]
theorem eqv_refl (d : D) : d.eqv d = true := by
  have : ∀ k : NestedKey, NestedKey.beq k k = true := fun k => NestedKey.beq_self k
  exact this d.key
theorem eqv_int (i j : Int) : (D.int i).eqv (.int j) = decide (i = j) := by
  show NestedKey.beq (.num i) (.num j) = _
  simp [NestedKey.beq]
theorem wpEq_int {i j : Int} {M : Mp} {k : Bool → Prop} : wpEq (.int i) (.int j) M k ↔ k (decide (i = j)) := by
  show (_ ∧ k ((D.int i).eqv (.int j))) ↔ _
  rw [eqv_int]
  exact ⟨fun h => h.2, fun h => ⟨⟨rfl, rfl⟩, h⟩⟩
theorem wpEq_same {x : D} {M : Mp} {k : Bool → Prop} (hx : ∀ a, x ≠ .ref a) (hf : x.flat = true) (h : k true) : wpEq x x M k := by
  have e := eqv_refl x
  cases x with
  | ref a => exact absurd rfl (hx a)
  | _ => exact ⟨⟨hf, hf⟩, by rw [e]; exact h⟩
section
variable {P : Pr} {M : Mp} {Q : Post} {k : Bool → Prop} {i j : Int} {x y : Str} {b c : Bool} {d e : D} {ds es : List D} {σ : Lo} {kl : Lo → Prop} {R : ItR}
theorem w_add : wpBin .add (.int i) (.int j) M Q ↔ Q (.int (i + j)) M := Iff.rfl
theorem w_addS : wpBin .add (.str x) (.str y) M Q ↔ x.length + y.length ≤ sizeLine ∧ Q (.str (x ++ y)) M := Iff.rfl
theorem w_addT : wpBin .add (.tup ds) (.tup es) M Q ↔ ds.length + es.length ≤ sizeLine ∧ Q (.tup (ds ++ es)) M := Iff.rfl
theorem w_sub : wpBin .sub (.int i) (.int j) M Q ↔ Q (.int (i - j)) M := Iff.rfl
theorem w_mul : wpBin .mul (.int i) (.int j) M Q ↔ MulOk i j ∧ Q (.int (i * j)) M := Iff.rfl
theorem w_fdiv : wpBin .fdiv (.int i) (.int j) M Q ↔ (0 < j ∧ j < 1073741824) ∧ Q (.int (i / j)) M := Iff.rfl
theorem w_mod : wpBin .mod (.int i) (.int j) M Q ↔ 0 < j ∧ Q (.int (i % j)) M := Iff.rfl
theorem w_pow : wpBin .pow (.int i) (.int j) M Q ↔ (0 ≤ j ∧ j ≤ 1000000 ∧ i.natAbs < 2 ^ 64) ∧ Q (.int (i ^ j.toNat)) M := Iff.rfl
theorem w_iadd : wpInp .add (.int i) (.int j) M Q ↔ Q (.int (i + j)) M := Iff.rfl
theorem w_isub : wpInp .sub (.int i) (.int j) M Q ↔ Q (.int (i - j)) M := Iff.rfl
theorem w_neg : wpUn .neg (.int i) M Q ↔ Q (.int (-i)) M := Iff.rfl
theorem w_lt : wpCmp .lt (.int i) (.int j) M k ↔ k (decide (i < j)) := Iff.rfl
theorem w_le : wpCmp .le (.int i) (.int j) M k ↔ k (decide (i ≤ j)) := Iff.rfl
theorem w_gt : wpCmp .gt (.int i) (.int j) M k ↔ k (decide (j < i)) := Iff.rfl
theorem w_ge : wpCmp .ge (.int i) (.int j) M k ↔ k (decide (j ≤ i)) := Iff.rfl
theorem w_eq : wpCmp .eq (.int i) (.int j) M k ↔ k (decide (i = j)) := wpEq_int (M := M)
theorem w_ne : wpCmp .ne (.int i) (.int j) M k ↔ k (!decide (i = j)) := wpEq_int (M := M) (k := fun b => k (!b))
theorem w_in : wpCmp .isIn d e M k ↔ wpIn d e M k := Iff.rfl
theorem w_nin : wpCmp .notIn d e M k ↔ wpIn d e M fun b => k (!b) := Iff.rfl
theorem w_tb : truthy (.bl b) M k ↔ k b := Iff.rfl
theorem w_ti : truthy (.int i) M k ↔ k (i != 0) := Iff.rfl
theorem w_tt : truthy (.tup ds) M k ↔ k (!ds.isEmpty) := Iff.rfl
theorem w_ix0 : wpIx (.tup (d :: ds)) (.int 0) M Q ↔ Q d M := by
  show (∃ c, atD (d :: ds) 0 = some c ∧ Q c M) ↔ _
  simp [atD]
theorem w_ix1 {a : D} : wpIx (.tup (a :: d :: ds)) (.int 1) M Q ↔ Q d M := by
  show (∃ c, atD (a :: d :: ds) 1 = some c ∧ Q c M) ↔ _
  simp [atD]
theorem w_ix2 {a a' : D} : wpIx (.tup (a :: a' :: d :: ds)) (.int 2) M Q ↔ Q d M := by
  show (∃ c, atD (a :: a' :: d :: ds) 2 = some c ∧ Q c M) ↔ _
  simp [atD]
theorem w_lenT : wpBlt .len [.tup ds] M Q ↔ Q (.int ds.length) M := Iff.rfl
theorem w_lenK : wpBlt .len [.kl ds] M Q ↔ Q (.int ds.length) M := Iff.rfl
theorem w_int : wpBlt .int [.int i] M Q ↔ Q (.int i) M := Iff.rfl
theorem w_max : wpBlt .max [.int i, .int j] M Q ↔ Q (.int (if j > i then j else i)) M := Iff.rfl
theorem w_min : wpBlt .min [.int i, .int j] M Q ↔ Q (.int (if j < i then j else i)) M := Iff.rfl
theorem w_repr : wpBlt .repr [d] M Q ↔ ∃ p, Deep M d p ∧ p.showable = true ∧ p.shown.length ≤ sizeLine ∧ p.depth ≤ 40 ∧ Q (.str p.shown) M := Iff.rfl
theorem w_rng1 : wpIt .range [.int i] M R ↔ small62 i ∧ R (dRange 0 i) (fun _ => True) M id := Iff.rfl
theorem w_rng2 : wpIt .range [.int i, .int j] M R ↔ (small62 i ∧ small62 j) ∧ R (dRange i j) (fun _ => True) M id := Iff.rfl
theorem w_one {n : Nat} : wpTg (.one n) d σ M kl ↔ kl (σ.set n (some d)) := Iff.rfl
theorem w_ixL {a : Addr} {ds : List D} (h : M a = some (.lst ds)) : wpIx (.ref a) (.int i) M Q ↔ ∃ d, atD ds i = some d ∧ Q d M := by
  simp only [wpIx, h]
theorem w_ixK : wpIx (.kl ds) (.int i) M Q ↔ ∃ d, atD ds i = some d ∧ Q d M := Iff.rfl
theorem w_lenL {a : Addr} {ds : List D} (h : M a = some (.lst ds)) : wpBlt .len [.ref a] M Q ↔ Q (.int ds.length) M := by
  simp only [wpBlt, h]
theorem w_app {a : Addr} {ds : List D} (h : M a = some (.lst ds)) : wpMth .append (.ref a) [d] M Q ↔ ds.length < sizeLine ∧ Q .non (mset M a (.lst (ds ++ [d]))) := by
  simp only [wpMth, h]
theorem w_rcvL {a : Addr} {ds : List D} (h : M a = some (.lst ds)) : rcv (.ref a) M = some .lst := by
  simp only [rcv, h]
theorem w_set {a : Addr} {ds : List D} {v : D} {km : Mp → Prop} (h : M a = some (.lst ds)) : wpSetIx (.ref a) (.int i) v M km ↔ (0 ≤ i ∧ i < ds.length) ∧ km (mset M a (.lst (ds.set i.toNat v))) := by
  simp only [wpSetIx, h]
theorem w_rev {a : Addr} {ds : List D} (h : M a = some (.lst ds)) : wpIt .reversed [.ref a] M R ↔ R ds.reverse (fun M' => M' a = some (.lst ds)) M id := by
  simp only [wpIt, h]
theorem w_itL {a : Addr} {ds : List D} (h : M a = some (.lst ds)) : wpIt .plain [.ref a] M R ↔ R ds (fun M' => M' a = some (.lst ds)) M id := by
  simp only [wpIt, h]
theorem w_fld {a : Addr} {c : Nat} {fs : List (Str × D)} {f : Str} (h : M a = some (.ins c fs)) : wpFld P (.ref a) f M Q ↔ P.fl c f = true ∧ ∃ v, fs.lookup f = some v ∧ Q v M := by
  simp only [wpFld, h]
theorem w_setFld {a : Addr} {c : Nat} {fs : List (Str × D)} {f : Str} {v : D} {km : Mp → Prop} (h : M a = some (.ins c fs)) : wpSetFld P (.ref a) f v M km ↔ (P.fl c f = true ∧ fs.length < 900) ∧ km (mset M a (.ins c (putFd f v fs))) := by
  simp only [wpSetFld, h]
theorem w_ixD {a : Addr} {kvs : List (D × D)} {y : D} (h : M a = some (.dct kvs)) : wpIx (.ref a) y M Q ↔ y.hk1 = true ∧ ∃ d, dget kvs y = some d ∧ Q d M := by
  cases y <;> simp only [wpIx, h]
theorem w_ixLk {a : Addr} {kvs : List (D × D)} {y : D} (h : M a = some (.lck kvs)) : wpIx (.ref a) y M Q ↔ y.hk1 = true ∧ ∃ d, dget kvs y = some d ∧ Q d M := by
  cases y <;> simp only [wpIx, h]
theorem w_inD {a : Addr} {kvs : List (D × D)} {y : D} (h : M a = some (.dct kvs)) : wpIn y (.ref a) M k ↔ y.hk1 = true ∧ k (dhas kvs y) := by
  simp only [wpIn, h]
theorem w_inL {a : Addr} {ds : List D} {y : D} (h : M a = some (.lst ds)) : wpIn y (.ref a) M k ↔ (y.flat = true ∧ ∀ d ∈ ds, d.flat = true) ∧ k (ds.any fun z => z.eqv y) := by
  simp only [wpIn, h]
theorem w_setD {a : Addr} {kvs : List (D × D)} {y v : D} {km : Mp → Prop} (h : M a = some (.dct kvs)) : wpSetIx (.ref a) y v M km ↔ (y.hk1 = true ∧ kvs.length < sizeLine) ∧ km (mset M a (.dct (dput kvs y v))) := by
  cases y <;> simp only [wpSetIx, h]
theorem w_itD {a : Addr} {kvs : List (D × D)} (h : M a = some (.dct kvs)) : wpIt .plain [.ref a] M R ↔ wpItD (·.map (·.1)) a kvs M R := by
  simp only [wpIt, h]
theorem w_itI {a : Addr} {kvs : List (D × D)} (h : M a = some (.dct kvs)) : wpIt .items [.ref a] M R ↔ wpItD (·.map fun p => .tup [p.1, p.2]) a kvs M R := by
  simp only [wpIt, h]
theorem w_addL {a b : Addr} {ds es : List D} (h : M a = some (.lst ds)) (h2 : M b = some (.lst es)) : wpBin .add (.ref a) (.ref b) M Q ↔ ds.length + es.length ≤ sizeLine ∧ wpNew M (.lst (ds ++ es)) Q := by
  simp only [wpBin, h, h2]
theorem w_ext {a b : Addr} {ds es : List D} (h : M a = some (.lst ds)) (h2 : M b = some (.lst es)) : wpMth .extend (.ref a) [.ref b] M Q ↔ ds.length + es.length ≤ sizeLine ∧ Q .non (mset M a (.lst (ds ++ es))) := by
  simp only [wpMth, h, wpExt, h2]
theorem w_itS {z : Str} : wpIt .plain [.str z] M R ↔ z.length ≤ sizeLine ∧ R (z.cps.toList.map fun c => .str ⟨#[c]⟩) (fun _ => True) M id := Iff.rfl
theorem w_lenS : wpBlt .len [.str x] M Q ↔ x.length ≤ sizeLine ∧ Q (.int x.length) M := Iff.rfl
theorem w_many {l : List Nat} : wpTg (.many l) (.tup ds) σ M kl ↔ ∃ σ', setMany l ds σ = some σ' ∧ kl σ' := Iff.rfl
theorem eqv_str : (D.str x).eqv (.str y) = decide (x = y) := by
  show NestedKey.beq (.text x) (.text y) = _
  simp [NestedKey.beq]
theorem w_eqS : wpCmp .eq (.str x) (.str y) M k ↔ k (decide (x = y)) := by
  show (_ ∧ k ((D.str x).eqv (.str y))) ↔ _
  rw [eqv_str]
  exact ⟨fun h => h.2, fun h => ⟨⟨rfl, rfl⟩, h⟩⟩
end
/-- as text -/
def Told (p : PyData) : Prop := p.showable = true ∧ p.shown.length ≤ sizeLine ∧ p.depth ≤ 40
end L3
end
section
set_option autoImplicit false
set_option linter.all false
set_option maxRecDepth 100000
/-! L3: the tables in the heap -/
namespace L3
open PySem (Addr Str PyData)

/-! frames: what a piece of work may change -/
def Fr (O : Addr → Prop) (M M' : Mp) : Prop := ∀ a, ¬ O a → M a ≠ none → M' a = M a
abbrev No : Addr → Prop := fun _ => False
abbrev At (b : Addr) : Addr → Prop := fun a => a = b
section
variable {O O' : Addr → Prop} {M M1 M2 : Mp} {p : Addr} {o : MO}
theorem Fr.refl : Fr O M M := fun _ _ _ => rfl
theorem Fr.trans (h : Fr O M M1) (h2 : Fr O M1 M2) : Fr O M M2 := fun a n z => by
  have e := h a n z
  rw [h2 a n (by rw [e]; exact z), e]
theorem Fr.mono (h : Fr O M M1) (s : ∀ a, O a → O' a) : Fr O' M M1 := fun a n z => h a (fun w => n (s a w)) z
theorem Fr.any (h : Fr No M M1) : Fr O M M1 := h.mono fun _ w => w.elim
theorem Fr.new (h : M p = none) : Fr O M (mset M p o) := fun a _ z => mset_ne (by rintro rfl; exact z h)
theorem Fr.set (h : O p) : Fr O M (mset M p o) := fun a n _ => mset_ne (by rintro rfl; exact n h)
/-- what was made on the way is not told -/
theorem Fr.hide (h : M p = none) (f : Fr (fun a => O a ∨ a = p) M M1) : Fr O M M1 := fun a n z => f a (fun w => w.elim n fun e => z (by rw [e]; exact h)) z
theorem Fr.hide1 (h : M p = none) (f : Fr (At p) M M1) : Fr O M M1 := fun a n z => f a (fun e => z (by rw [show a = p from e]; exact h)) z
theorem Fr.get {a : Addr} {m : MO} (f : Fr O M M1) (n : ¬ O a) (h : M a = some m) : M1 a = some m := by rw [f a n (by rw [h]; exact nofun), h]
theorem Fr.no0 {O : Addr → Prop} (f : Fr O M M1) (n : ¬ O p) (h : M1 p = none) : M p = none := by
  cases e : M p with
  | none => rfl
  | some x => have := f p n (by rw [e]; exact nofun); rw [h, e] at this; cases this
theorem Fr.ne {a : Addr} {m : MO} (h : M a = some m) (hp : M p = none) : a ≠ p := by rintro rfl; rw [h] at hp; cases hp
theorem Fr.unl (h : M p = some o) : Fr O M M1 → O p → Fr O M (mset M1 p o) := fun f z a n w => by
  have : a ≠ p := by rintro rfl; exact n z
  rw [mset_ne this]; exact f a n w
end
section
variable {O : Addr → Prop} {M M1 : Mp}
theorem Deep.keep (f : Fr No M M1) : ∀ {d : D} {q : PyData}, Deep M d q → Deep M1 d q := by
  intro d q h
  refine Deep.rec (motive_1 := fun d q _ => Deep M1 d q) (motive_2 := fun ds qs _ => Deeps M1 ds qs) ?_ ?_ ?_ ?_ ?_ ?_ ?_ ?_ ?_ ?_ h
  · exact .non
  · exact fun b => .bl b
  · exact fun i => .int i
  · exact fun x => .str x
  · exact fun _ h => .tup h
  · exact fun _ h => .kt h
  · exact fun h1 _ h2 => .lst (f.get (fun w => w) h1) h2
  · exact fun h1 _ _ h2 h3 => .dct (f.get (fun w => w) h1) h2 h3
  · exact .nil
  · exact fun _ _ h1 h2 => .cons h1 h2
end

inductive Fl where
  | objects | promises | answers | lent | held | known | hoped | places | arrived | queue | parked | early | waiting | listeners | pins | transfers | out | log | order
  deriving DecidableEq
structure Tb where
  vat : Int
  prog : D
  top : Int
  made : Int
  sent : Int
  asked : Int
  objects : List (D × D)
  promises : List (D × D)
  answers : List (D × D)
  lent : List (D × D)
  held : List (D × D)
  known : List (D × D)
  hoped : List (D × D)
  places : List (D × D)
  arrived : List (D × D)
  queue : List D
  parked : List D
  early : List D
  waiting : List D
  listeners : List D
  pins : List (D × D)
  transfers : List D
  out : List D
  log : List D
  order : List D
def Tb.box (S : Tb) : Fl → MO
  | .objects => .dct S.objects
  | .promises => .dct S.promises
  | .answers => .dcT S.answers
  | .lent => .dcT S.lent
  | .held => .dcT S.held
  | .known => .dcT S.known
  | .hoped => .dcT S.hoped
  | .places => .dcT S.places
  | .arrived => .dcT S.arrived
  | .queue => .lst S.queue
  | .parked => .lst S.parked
  | .early => .lst S.early
  | .waiting => .lst S.waiting
  | .listeners => .lst S.listeners
  | .pins => .dcT S.pins
  | .transfers => .lst S.transfers
  | .out => .lst S.out
  | .log => .lst S.log
  | .order => .lst S.order
def Tb.ins (S : Tb) (lt : Fl → Addr) : List (Str × D) := [("vat", .int S.vat), ("program", S.prog), ("objects", .ref (lt .objects)), ("made", .int S.made), ("sent", .int S.sent), ("asked", .int S.asked), ("promises", .ref (lt .promises)), ("answers", .ref (lt .answers)), ("lent", .ref (lt .lent)), ("held", .ref (lt .held)), ("known", .ref (lt .known)), ("hoped", .ref (lt .hoped)), ("places", .ref (lt .places)), ("arrived", .ref (lt .arrived)), ("queue", .ref (lt .queue)), ("parked", .ref (lt .parked)), ("early", .ref (lt .early)), ("waiting", .ref (lt .waiting)), ("listeners", .ref (lt .listeners)), ("pins", .ref (lt .pins)), ("transfers", .ref (lt .transfers)), ("out", .ref (lt .out)), ("log", .ref (lt .log)), ("order", .ref (lt .order))]
def Tb.dct (S : Tb) (ls : Fl → Addr) : List (D × D) := [(.str "vat", .int S.vat), (.str "top", .int S.top), (.str "objects", .ref (ls .objects)), (.str "made", .int S.made), (.str "sent", .int S.sent), (.str "asked", .int S.asked), (.str "promises", .ref (ls .promises)), (.str "answers", .ref (ls .answers)), (.str "lent", .ref (ls .lent)), (.str "held", .ref (ls .held)), (.str "known", .ref (ls .known)), (.str "hoped", .ref (ls .hoped)), (.str "places", .ref (ls .places)), (.str "arrived", .ref (ls .arrived)), (.str "queue", .ref (ls .queue)), (.str "parked", .ref (ls .parked)), (.str "early", .ref (ls .early)), (.str "waiting", .ref (ls .waiting)), (.str "listeners", .ref (ls .listeners)), (.str "pins", .ref (ls .pins)), (.str "transfers", .ref (ls .transfers)), (.str "out", .ref (ls .out)), (.str "log", .ref (ls .log))]
/-- the class's fields are told -/
def FlT (P : Pr) : Prop := ∀ f ∈ (["vat", "program", "objects", "made", "sent", "asked", "promises", "answers", "lent", "held", "known", "hoped", "places", "arrived", "queue", "parked", "early", "waiting", "listeners", "pins", "transfers", "out", "log", "order"] : List Str), P.fl 0 f = true
/-- an instance of Tables and what it holds -/
def OT (t : Addr) (lt : Fl → Addr) : Addr → Prop := fun a => a = t ∨ ∃ i, a = lt i
structure TT (M : Mp) (t : Addr) (lt : Fl → Addr) (S : Tb) : Prop where
  inj : ∀ i j, lt i = lt j → i = j
  ne : ∀ i, lt i ≠ t
  ins : M t = some (.ins 0 (S.ins lt))
  box : ∀ i, M (lt i) = some (S.box i)
/-- a law's own tables: order is not held -/
def OS (s : Addr) (ls : Fl → Addr) : Addr → Prop := fun a => a = s ∨ ∃ i, i ≠ .order ∧ a = ls i
structure SS (M : Mp) (s : Addr) (ls : Fl → Addr) (S : Tb) : Prop where
  inj : ∀ i j, i ≠ .order → j ≠ .order → ls i = ls j → i = j
  ne : ∀ i, i ≠ .order → ls i ≠ s
  dct : M s = some (.dct (S.dct ls))
  box : ∀ i, i ≠ .order → M (ls i) = some (S.box i)
def Tb.put (S : Tb) : Fl → MO → Tb
  | .objects, .dct x => { S with objects := x }
  | .promises, .dct x => { S with promises := x }
  | .answers, .dcT x => { S with answers := x }
  | .lent, .dcT x => { S with lent := x }
  | .held, .dcT x => { S with held := x }
  | .known, .dcT x => { S with known := x }
  | .hoped, .dcT x => { S with hoped := x }
  | .places, .dcT x => { S with places := x }
  | .arrived, .dcT x => { S with arrived := x }
  | .queue, .lst x => { S with queue := x }
  | .parked, .lst x => { S with parked := x }
  | .early, .lst x => { S with early := x }
  | .waiting, .lst x => { S with waiting := x }
  | .listeners, .lst x => { S with listeners := x }
  | .pins, .dcT x => { S with pins := x }
  | .transfers, .lst x => { S with transfers := x }
  | .out, .lst x => { S with out := x }
  | .log, .lst x => { S with log := x }
  | .order, .lst x => { S with order := x }
  | _, _ => S
def Tb.fit : Fl → MO → Prop
  | .objects, .dct _ => True
  | .promises, .dct _ => True
  | .answers, .dcT _ => True
  | .lent, .dcT _ => True
  | .held, .dcT _ => True
  | .known, .dcT _ => True
  | .hoped, .dcT _ => True
  | .places, .dcT _ => True
  | .arrived, .dcT _ => True
  | .queue, .lst _ => True
  | .parked, .lst _ => True
  | .early, .lst _ => True
  | .waiting, .lst _ => True
  | .listeners, .lst _ => True
  | .pins, .dcT _ => True
  | .transfers, .lst _ => True
  | .out, .lst _ => True
  | .log, .lst _ => True
  | .order, .lst _ => True
  | _, _ => False
theorem Tb.put_ins {S : Tb} {i : Fl} {o : MO} {lt : Fl → Addr} : (S.put i o).ins lt = S.ins lt := by cases i <;> cases o <;> rfl
theorem Tb.put_dct {S : Tb} {i : Fl} {o : MO} {lt : Fl → Addr} : (S.put i o).dct lt = S.dct lt := by cases i <;> cases o <;> rfl
theorem Tb.put_box {S : Tb} {i : Fl} {o : MO} (h : Tb.fit i o) : (S.put i o).box i = o := by cases i <;> cases o <;> first | rfl | exact h.elim
theorem Tb.put_ne {S : Tb} {i j : Fl} {o : MO} (h : j ≠ i) : (S.put i o).box j = S.box j := by cases i <;> cases o <;> first | rfl | (cases j <;> first | rfl | exact absurd rfl h)
section
variable {P : Pr} {M M1 : Mp} {t s : Addr} {lt ls : Fl → Addr} {S : Tb} {Q : Post} {v : D} {km : Mp → Prop}
theorem TT.keep (h : TT M t lt S) (f : ∀ a, OT t lt a → M1 a = M a) : TT M1 t lt S := ⟨h.inj, h.ne, by rw [f t (.inl rfl)]; exact h.ins, fun i => by rw [f _ (.inr ⟨i, rfl⟩)]; exact h.box i⟩
theorem SS.keep (h : SS M s ls S) (f : ∀ a, OS s ls a → M1 a = M a) : SS M1 s ls S := ⟨h.inj, h.ne, by rw [f s (.inl rfl)]; exact h.dct, fun i n => by rw [f _ (.inr ⟨i, n, rfl⟩)]; exact h.box i n⟩
theorem TT.has (h : TT M t lt S) {a : Addr} (o : OT t lt a) : M a ≠ none := by
  rcases o with rfl | ⟨i, rfl⟩
  · rw [h.ins]; exact nofun
  · rw [h.box]; exact nofun
theorem SS.has (h : SS M s ls S) {a : Addr} (o : OS s ls a) : M a ≠ none := by
  rcases o with rfl | ⟨i, n, rfl⟩
  · rw [h.dct]; exact nofun
  · rw [h.box i n]; exact nofun
theorem TT.fr (h : TT M t lt S) {O : Addr → Prop} (f : Fr O M M1) (n : ∀ a, O a → OT t lt a → False) : TT M1 t lt S := h.keep fun a o => f a (fun w => n a w o) (h.has o)
theorem SS.fr (h : SS M s ls S) {O : Addr → Prop} (f : Fr O M M1) (n : ∀ a, O a → OS s ls a → False) : SS M1 s ls S := h.keep fun a o => f a (fun w => n a w o) (h.has o)
theorem TT.new (h : TT M t lt S) {p : Addr} {o : MO} (hp : M p = none) : TT (mset M p o) t lt S := h.keep fun a w => mset_ne (by rintro rfl; exact h.has w hp)
theorem SS.new (h : SS M s ls S) {p : Addr} {o : MO} (hp : M p = none) : SS (mset M p o) s ls S := h.keep fun a w => mset_ne (by rintro rfl; exact h.has w hp)
/-- a box is written -/
theorem TT.put (h : TT M t lt S) {i : Fl} {o : MO} (f : Tb.fit i o) : TT (mset M (lt i) o) t lt (S.put i o) := by
  refine ⟨h.inj, h.ne, ?_, fun j => ?_⟩
  · rw [mset_ne (h.ne i).symm, Tb.put_ins]; exact h.ins
  · by_cases e : j = i
    · subst e; rw [mset_same, Tb.put_box f]
    · rw [mset_ne (fun z => e (h.inj _ _ z)), Tb.put_ne e]; exact h.box j
theorem SS.put (h : SS M s ls S) {i : Fl} {o : MO} (n : i ≠ .order) (f : Tb.fit i o) : SS (mset M (ls i) o) s ls (S.put i o) := by
  refine ⟨h.inj, h.ne, ?_, fun j nj => ?_⟩
  · rw [mset_ne (h.ne i n).symm, Tb.put_dct]; exact h.dct
  · by_cases e : j = i
    · subst e; rw [mset_same, Tb.put_box f]
    · rw [mset_ne (fun z => e (h.inj _ _ nj n z)), Tb.put_ne e]; exact h.box j nj

theorem TT.g_vat (h : TT M t lt S) (hF : FlT P) : wpFld P (.ref t) "vat" M Q ↔ Q (.int S.vat) M := by
  rw [w_fld h.ins]
  exact ⟨fun ⟨_, d, e, q⟩ => by cases e; exact q, fun q => ⟨hF _ (by decide), _, rfl, q⟩⟩
theorem TT.g_program (h : TT M t lt S) (hF : FlT P) : wpFld P (.ref t) "program" M Q ↔ Q (S.prog) M := by
  rw [w_fld h.ins]
  exact ⟨fun ⟨_, d, e, q⟩ => by cases e; exact q, fun q => ⟨hF _ (by decide), _, rfl, q⟩⟩
theorem TT.g_objects (h : TT M t lt S) (hF : FlT P) : wpFld P (.ref t) "objects" M Q ↔ Q (.ref (lt .objects)) M := by
  rw [w_fld h.ins]
  exact ⟨fun ⟨_, d, e, q⟩ => by cases e; exact q, fun q => ⟨hF _ (by decide), _, rfl, q⟩⟩
theorem TT.g_made (h : TT M t lt S) (hF : FlT P) : wpFld P (.ref t) "made" M Q ↔ Q (.int S.made) M := by
  rw [w_fld h.ins]
  exact ⟨fun ⟨_, d, e, q⟩ => by cases e; exact q, fun q => ⟨hF _ (by decide), _, rfl, q⟩⟩
theorem TT.g_sent (h : TT M t lt S) (hF : FlT P) : wpFld P (.ref t) "sent" M Q ↔ Q (.int S.sent) M := by
  rw [w_fld h.ins]
  exact ⟨fun ⟨_, d, e, q⟩ => by cases e; exact q, fun q => ⟨hF _ (by decide), _, rfl, q⟩⟩
theorem TT.g_asked (h : TT M t lt S) (hF : FlT P) : wpFld P (.ref t) "asked" M Q ↔ Q (.int S.asked) M := by
  rw [w_fld h.ins]
  exact ⟨fun ⟨_, d, e, q⟩ => by cases e; exact q, fun q => ⟨hF _ (by decide), _, rfl, q⟩⟩
theorem TT.g_promises (h : TT M t lt S) (hF : FlT P) : wpFld P (.ref t) "promises" M Q ↔ Q (.ref (lt .promises)) M := by
  rw [w_fld h.ins]
  exact ⟨fun ⟨_, d, e, q⟩ => by cases e; exact q, fun q => ⟨hF _ (by decide), _, rfl, q⟩⟩
theorem TT.g_answers (h : TT M t lt S) (hF : FlT P) : wpFld P (.ref t) "answers" M Q ↔ Q (.ref (lt .answers)) M := by
  rw [w_fld h.ins]
  exact ⟨fun ⟨_, d, e, q⟩ => by cases e; exact q, fun q => ⟨hF _ (by decide), _, rfl, q⟩⟩
theorem TT.g_lent (h : TT M t lt S) (hF : FlT P) : wpFld P (.ref t) "lent" M Q ↔ Q (.ref (lt .lent)) M := by
  rw [w_fld h.ins]
  exact ⟨fun ⟨_, d, e, q⟩ => by cases e; exact q, fun q => ⟨hF _ (by decide), _, rfl, q⟩⟩
theorem TT.g_held (h : TT M t lt S) (hF : FlT P) : wpFld P (.ref t) "held" M Q ↔ Q (.ref (lt .held)) M := by
  rw [w_fld h.ins]
  exact ⟨fun ⟨_, d, e, q⟩ => by cases e; exact q, fun q => ⟨hF _ (by decide), _, rfl, q⟩⟩
theorem TT.g_known (h : TT M t lt S) (hF : FlT P) : wpFld P (.ref t) "known" M Q ↔ Q (.ref (lt .known)) M := by
  rw [w_fld h.ins]
  exact ⟨fun ⟨_, d, e, q⟩ => by cases e; exact q, fun q => ⟨hF _ (by decide), _, rfl, q⟩⟩
theorem TT.g_hoped (h : TT M t lt S) (hF : FlT P) : wpFld P (.ref t) "hoped" M Q ↔ Q (.ref (lt .hoped)) M := by
  rw [w_fld h.ins]
  exact ⟨fun ⟨_, d, e, q⟩ => by cases e; exact q, fun q => ⟨hF _ (by decide), _, rfl, q⟩⟩
theorem TT.g_places (h : TT M t lt S) (hF : FlT P) : wpFld P (.ref t) "places" M Q ↔ Q (.ref (lt .places)) M := by
  rw [w_fld h.ins]
  exact ⟨fun ⟨_, d, e, q⟩ => by cases e; exact q, fun q => ⟨hF _ (by decide), _, rfl, q⟩⟩
theorem TT.g_arrived (h : TT M t lt S) (hF : FlT P) : wpFld P (.ref t) "arrived" M Q ↔ Q (.ref (lt .arrived)) M := by
  rw [w_fld h.ins]
  exact ⟨fun ⟨_, d, e, q⟩ => by cases e; exact q, fun q => ⟨hF _ (by decide), _, rfl, q⟩⟩
theorem TT.g_queue (h : TT M t lt S) (hF : FlT P) : wpFld P (.ref t) "queue" M Q ↔ Q (.ref (lt .queue)) M := by
  rw [w_fld h.ins]
  exact ⟨fun ⟨_, d, e, q⟩ => by cases e; exact q, fun q => ⟨hF _ (by decide), _, rfl, q⟩⟩
theorem TT.g_parked (h : TT M t lt S) (hF : FlT P) : wpFld P (.ref t) "parked" M Q ↔ Q (.ref (lt .parked)) M := by
  rw [w_fld h.ins]
  exact ⟨fun ⟨_, d, e, q⟩ => by cases e; exact q, fun q => ⟨hF _ (by decide), _, rfl, q⟩⟩
theorem TT.g_early (h : TT M t lt S) (hF : FlT P) : wpFld P (.ref t) "early" M Q ↔ Q (.ref (lt .early)) M := by
  rw [w_fld h.ins]
  exact ⟨fun ⟨_, d, e, q⟩ => by cases e; exact q, fun q => ⟨hF _ (by decide), _, rfl, q⟩⟩
theorem TT.g_waiting (h : TT M t lt S) (hF : FlT P) : wpFld P (.ref t) "waiting" M Q ↔ Q (.ref (lt .waiting)) M := by
  rw [w_fld h.ins]
  exact ⟨fun ⟨_, d, e, q⟩ => by cases e; exact q, fun q => ⟨hF _ (by decide), _, rfl, q⟩⟩
theorem TT.g_listeners (h : TT M t lt S) (hF : FlT P) : wpFld P (.ref t) "listeners" M Q ↔ Q (.ref (lt .listeners)) M := by
  rw [w_fld h.ins]
  exact ⟨fun ⟨_, d, e, q⟩ => by cases e; exact q, fun q => ⟨hF _ (by decide), _, rfl, q⟩⟩
theorem TT.g_pins (h : TT M t lt S) (hF : FlT P) : wpFld P (.ref t) "pins" M Q ↔ Q (.ref (lt .pins)) M := by
  rw [w_fld h.ins]
  exact ⟨fun ⟨_, d, e, q⟩ => by cases e; exact q, fun q => ⟨hF _ (by decide), _, rfl, q⟩⟩
theorem TT.g_transfers (h : TT M t lt S) (hF : FlT P) : wpFld P (.ref t) "transfers" M Q ↔ Q (.ref (lt .transfers)) M := by
  rw [w_fld h.ins]
  exact ⟨fun ⟨_, d, e, q⟩ => by cases e; exact q, fun q => ⟨hF _ (by decide), _, rfl, q⟩⟩
theorem TT.g_out (h : TT M t lt S) (hF : FlT P) : wpFld P (.ref t) "out" M Q ↔ Q (.ref (lt .out)) M := by
  rw [w_fld h.ins]
  exact ⟨fun ⟨_, d, e, q⟩ => by cases e; exact q, fun q => ⟨hF _ (by decide), _, rfl, q⟩⟩
theorem TT.g_log (h : TT M t lt S) (hF : FlT P) : wpFld P (.ref t) "log" M Q ↔ Q (.ref (lt .log)) M := by
  rw [w_fld h.ins]
  exact ⟨fun ⟨_, d, e, q⟩ => by cases e; exact q, fun q => ⟨hF _ (by decide), _, rfl, q⟩⟩
theorem TT.g_order (h : TT M t lt S) (hF : FlT P) : wpFld P (.ref t) "order" M Q ↔ Q (.ref (lt .order)) M := by
  rw [w_fld h.ins]
  exact ⟨fun ⟨_, d, e, q⟩ => by cases e; exact q, fun q => ⟨hF _ (by decide), _, rfl, q⟩⟩
theorem SS.g_vat (h : SS M s ls S) : wpIx (.ref s) (.str "vat") M Q ↔ Q (.int S.vat) M := by
  rw [w_ixD h.dct]
  exact ⟨fun ⟨_, d, e, q⟩ => by cases e; exact q, fun q => ⟨rfl, _, rfl, q⟩⟩
theorem SS.g_top (h : SS M s ls S) : wpIx (.ref s) (.str "top") M Q ↔ Q (.int S.top) M := by
  rw [w_ixD h.dct]
  exact ⟨fun ⟨_, d, e, q⟩ => by cases e; exact q, fun q => ⟨rfl, _, rfl, q⟩⟩
theorem SS.g_objects (h : SS M s ls S) : wpIx (.ref s) (.str "objects") M Q ↔ Q (.ref (ls .objects)) M := by
  rw [w_ixD h.dct]
  exact ⟨fun ⟨_, d, e, q⟩ => by cases e; exact q, fun q => ⟨rfl, _, rfl, q⟩⟩
theorem SS.g_made (h : SS M s ls S) : wpIx (.ref s) (.str "made") M Q ↔ Q (.int S.made) M := by
  rw [w_ixD h.dct]
  exact ⟨fun ⟨_, d, e, q⟩ => by cases e; exact q, fun q => ⟨rfl, _, rfl, q⟩⟩
theorem SS.g_sent (h : SS M s ls S) : wpIx (.ref s) (.str "sent") M Q ↔ Q (.int S.sent) M := by
  rw [w_ixD h.dct]
  exact ⟨fun ⟨_, d, e, q⟩ => by cases e; exact q, fun q => ⟨rfl, _, rfl, q⟩⟩
theorem SS.g_asked (h : SS M s ls S) : wpIx (.ref s) (.str "asked") M Q ↔ Q (.int S.asked) M := by
  rw [w_ixD h.dct]
  exact ⟨fun ⟨_, d, e, q⟩ => by cases e; exact q, fun q => ⟨rfl, _, rfl, q⟩⟩
theorem SS.g_promises (h : SS M s ls S) : wpIx (.ref s) (.str "promises") M Q ↔ Q (.ref (ls .promises)) M := by
  rw [w_ixD h.dct]
  exact ⟨fun ⟨_, d, e, q⟩ => by cases e; exact q, fun q => ⟨rfl, _, rfl, q⟩⟩
theorem SS.g_answers (h : SS M s ls S) : wpIx (.ref s) (.str "answers") M Q ↔ Q (.ref (ls .answers)) M := by
  rw [w_ixD h.dct]
  exact ⟨fun ⟨_, d, e, q⟩ => by cases e; exact q, fun q => ⟨rfl, _, rfl, q⟩⟩
theorem SS.g_lent (h : SS M s ls S) : wpIx (.ref s) (.str "lent") M Q ↔ Q (.ref (ls .lent)) M := by
  rw [w_ixD h.dct]
  exact ⟨fun ⟨_, d, e, q⟩ => by cases e; exact q, fun q => ⟨rfl, _, rfl, q⟩⟩
theorem SS.g_held (h : SS M s ls S) : wpIx (.ref s) (.str "held") M Q ↔ Q (.ref (ls .held)) M := by
  rw [w_ixD h.dct]
  exact ⟨fun ⟨_, d, e, q⟩ => by cases e; exact q, fun q => ⟨rfl, _, rfl, q⟩⟩
theorem SS.g_known (h : SS M s ls S) : wpIx (.ref s) (.str "known") M Q ↔ Q (.ref (ls .known)) M := by
  rw [w_ixD h.dct]
  exact ⟨fun ⟨_, d, e, q⟩ => by cases e; exact q, fun q => ⟨rfl, _, rfl, q⟩⟩
theorem SS.g_hoped (h : SS M s ls S) : wpIx (.ref s) (.str "hoped") M Q ↔ Q (.ref (ls .hoped)) M := by
  rw [w_ixD h.dct]
  exact ⟨fun ⟨_, d, e, q⟩ => by cases e; exact q, fun q => ⟨rfl, _, rfl, q⟩⟩
theorem SS.g_places (h : SS M s ls S) : wpIx (.ref s) (.str "places") M Q ↔ Q (.ref (ls .places)) M := by
  rw [w_ixD h.dct]
  exact ⟨fun ⟨_, d, e, q⟩ => by cases e; exact q, fun q => ⟨rfl, _, rfl, q⟩⟩
theorem SS.g_arrived (h : SS M s ls S) : wpIx (.ref s) (.str "arrived") M Q ↔ Q (.ref (ls .arrived)) M := by
  rw [w_ixD h.dct]
  exact ⟨fun ⟨_, d, e, q⟩ => by cases e; exact q, fun q => ⟨rfl, _, rfl, q⟩⟩
theorem SS.g_queue (h : SS M s ls S) : wpIx (.ref s) (.str "queue") M Q ↔ Q (.ref (ls .queue)) M := by
  rw [w_ixD h.dct]
  exact ⟨fun ⟨_, d, e, q⟩ => by cases e; exact q, fun q => ⟨rfl, _, rfl, q⟩⟩
theorem SS.g_parked (h : SS M s ls S) : wpIx (.ref s) (.str "parked") M Q ↔ Q (.ref (ls .parked)) M := by
  rw [w_ixD h.dct]
  exact ⟨fun ⟨_, d, e, q⟩ => by cases e; exact q, fun q => ⟨rfl, _, rfl, q⟩⟩
theorem SS.g_early (h : SS M s ls S) : wpIx (.ref s) (.str "early") M Q ↔ Q (.ref (ls .early)) M := by
  rw [w_ixD h.dct]
  exact ⟨fun ⟨_, d, e, q⟩ => by cases e; exact q, fun q => ⟨rfl, _, rfl, q⟩⟩
theorem SS.g_waiting (h : SS M s ls S) : wpIx (.ref s) (.str "waiting") M Q ↔ Q (.ref (ls .waiting)) M := by
  rw [w_ixD h.dct]
  exact ⟨fun ⟨_, d, e, q⟩ => by cases e; exact q, fun q => ⟨rfl, _, rfl, q⟩⟩
theorem SS.g_listeners (h : SS M s ls S) : wpIx (.ref s) (.str "listeners") M Q ↔ Q (.ref (ls .listeners)) M := by
  rw [w_ixD h.dct]
  exact ⟨fun ⟨_, d, e, q⟩ => by cases e; exact q, fun q => ⟨rfl, _, rfl, q⟩⟩
theorem SS.g_pins (h : SS M s ls S) : wpIx (.ref s) (.str "pins") M Q ↔ Q (.ref (ls .pins)) M := by
  rw [w_ixD h.dct]
  exact ⟨fun ⟨_, d, e, q⟩ => by cases e; exact q, fun q => ⟨rfl, _, rfl, q⟩⟩
theorem SS.g_transfers (h : SS M s ls S) : wpIx (.ref s) (.str "transfers") M Q ↔ Q (.ref (ls .transfers)) M := by
  rw [w_ixD h.dct]
  exact ⟨fun ⟨_, d, e, q⟩ => by cases e; exact q, fun q => ⟨rfl, _, rfl, q⟩⟩
theorem SS.g_out (h : SS M s ls S) : wpIx (.ref s) (.str "out") M Q ↔ Q (.ref (ls .out)) M := by
  rw [w_ixD h.dct]
  exact ⟨fun ⟨_, d, e, q⟩ => by cases e; exact q, fun q => ⟨rfl, _, rfl, q⟩⟩
theorem SS.g_log (h : SS M s ls S) : wpIx (.ref s) (.str "log") M Q ↔ Q (.ref (ls .log)) M := by
  rw [w_ixD h.dct]
  exact ⟨fun ⟨_, d, e, q⟩ => by cases e; exact q, fun q => ⟨rfl, _, rfl, q⟩⟩
theorem TT.b_objects (h : TT M t lt S) : M (lt .objects) = some (.dct S.objects) := h.box .objects
theorem TT.p_objects (h : TT M t lt S) {x : List (D × D)} : TT (mset M (lt .objects) (.dct x)) t lt { S with objects := x } := h.put (i := .objects) (o := .dct x) trivial
theorem SS.b_objects (h : SS M s ls S) : M (ls .objects) = some (.dct S.objects) := h.box .objects nofun
theorem SS.p_objects (h : SS M s ls S) {x : List (D × D)} : SS (mset M (ls .objects) (.dct x)) s ls { S with objects := x } := h.put (i := .objects) (o := .dct x) nofun trivial
theorem TT.b_promises (h : TT M t lt S) : M (lt .promises) = some (.dct S.promises) := h.box .promises
theorem TT.p_promises (h : TT M t lt S) {x : List (D × D)} : TT (mset M (lt .promises) (.dct x)) t lt { S with promises := x } := h.put (i := .promises) (o := .dct x) trivial
theorem SS.b_promises (h : SS M s ls S) : M (ls .promises) = some (.dct S.promises) := h.box .promises nofun
theorem SS.p_promises (h : SS M s ls S) {x : List (D × D)} : SS (mset M (ls .promises) (.dct x)) s ls { S with promises := x } := h.put (i := .promises) (o := .dct x) nofun trivial
theorem TT.b_answers (h : TT M t lt S) : M (lt .answers) = some (.dcT S.answers) := h.box .answers
theorem TT.p_answers (h : TT M t lt S) {x : List (D × D)} : TT (mset M (lt .answers) (.dcT x)) t lt { S with answers := x } := h.put (i := .answers) (o := .dcT x) trivial
theorem SS.b_answers (h : SS M s ls S) : M (ls .answers) = some (.dcT S.answers) := h.box .answers nofun
theorem SS.p_answers (h : SS M s ls S) {x : List (D × D)} : SS (mset M (ls .answers) (.dcT x)) s ls { S with answers := x } := h.put (i := .answers) (o := .dcT x) nofun trivial
theorem TT.b_lent (h : TT M t lt S) : M (lt .lent) = some (.dcT S.lent) := h.box .lent
theorem TT.p_lent (h : TT M t lt S) {x : List (D × D)} : TT (mset M (lt .lent) (.dcT x)) t lt { S with lent := x } := h.put (i := .lent) (o := .dcT x) trivial
theorem SS.b_lent (h : SS M s ls S) : M (ls .lent) = some (.dcT S.lent) := h.box .lent nofun
theorem SS.p_lent (h : SS M s ls S) {x : List (D × D)} : SS (mset M (ls .lent) (.dcT x)) s ls { S with lent := x } := h.put (i := .lent) (o := .dcT x) nofun trivial
theorem TT.b_held (h : TT M t lt S) : M (lt .held) = some (.dcT S.held) := h.box .held
theorem TT.p_held (h : TT M t lt S) {x : List (D × D)} : TT (mset M (lt .held) (.dcT x)) t lt { S with held := x } := h.put (i := .held) (o := .dcT x) trivial
theorem SS.b_held (h : SS M s ls S) : M (ls .held) = some (.dcT S.held) := h.box .held nofun
theorem SS.p_held (h : SS M s ls S) {x : List (D × D)} : SS (mset M (ls .held) (.dcT x)) s ls { S with held := x } := h.put (i := .held) (o := .dcT x) nofun trivial
theorem TT.b_known (h : TT M t lt S) : M (lt .known) = some (.dcT S.known) := h.box .known
theorem TT.p_known (h : TT M t lt S) {x : List (D × D)} : TT (mset M (lt .known) (.dcT x)) t lt { S with known := x } := h.put (i := .known) (o := .dcT x) trivial
theorem SS.b_known (h : SS M s ls S) : M (ls .known) = some (.dcT S.known) := h.box .known nofun
theorem SS.p_known (h : SS M s ls S) {x : List (D × D)} : SS (mset M (ls .known) (.dcT x)) s ls { S with known := x } := h.put (i := .known) (o := .dcT x) nofun trivial
theorem TT.b_hoped (h : TT M t lt S) : M (lt .hoped) = some (.dcT S.hoped) := h.box .hoped
theorem TT.p_hoped (h : TT M t lt S) {x : List (D × D)} : TT (mset M (lt .hoped) (.dcT x)) t lt { S with hoped := x } := h.put (i := .hoped) (o := .dcT x) trivial
theorem SS.b_hoped (h : SS M s ls S) : M (ls .hoped) = some (.dcT S.hoped) := h.box .hoped nofun
theorem SS.p_hoped (h : SS M s ls S) {x : List (D × D)} : SS (mset M (ls .hoped) (.dcT x)) s ls { S with hoped := x } := h.put (i := .hoped) (o := .dcT x) nofun trivial
theorem TT.b_places (h : TT M t lt S) : M (lt .places) = some (.dcT S.places) := h.box .places
theorem TT.p_places (h : TT M t lt S) {x : List (D × D)} : TT (mset M (lt .places) (.dcT x)) t lt { S with places := x } := h.put (i := .places) (o := .dcT x) trivial
theorem SS.b_places (h : SS M s ls S) : M (ls .places) = some (.dcT S.places) := h.box .places nofun
theorem SS.p_places (h : SS M s ls S) {x : List (D × D)} : SS (mset M (ls .places) (.dcT x)) s ls { S with places := x } := h.put (i := .places) (o := .dcT x) nofun trivial
theorem TT.b_arrived (h : TT M t lt S) : M (lt .arrived) = some (.dcT S.arrived) := h.box .arrived
theorem TT.p_arrived (h : TT M t lt S) {x : List (D × D)} : TT (mset M (lt .arrived) (.dcT x)) t lt { S with arrived := x } := h.put (i := .arrived) (o := .dcT x) trivial
theorem SS.b_arrived (h : SS M s ls S) : M (ls .arrived) = some (.dcT S.arrived) := h.box .arrived nofun
theorem SS.p_arrived (h : SS M s ls S) {x : List (D × D)} : SS (mset M (ls .arrived) (.dcT x)) s ls { S with arrived := x } := h.put (i := .arrived) (o := .dcT x) nofun trivial
theorem TT.b_queue (h : TT M t lt S) : M (lt .queue) = some (.lst S.queue) := h.box .queue
theorem TT.p_queue (h : TT M t lt S) {x : List D} : TT (mset M (lt .queue) (.lst x)) t lt { S with queue := x } := h.put (i := .queue) (o := .lst x) trivial
theorem SS.b_queue (h : SS M s ls S) : M (ls .queue) = some (.lst S.queue) := h.box .queue nofun
theorem SS.p_queue (h : SS M s ls S) {x : List D} : SS (mset M (ls .queue) (.lst x)) s ls { S with queue := x } := h.put (i := .queue) (o := .lst x) nofun trivial
theorem TT.b_parked (h : TT M t lt S) : M (lt .parked) = some (.lst S.parked) := h.box .parked
theorem TT.p_parked (h : TT M t lt S) {x : List D} : TT (mset M (lt .parked) (.lst x)) t lt { S with parked := x } := h.put (i := .parked) (o := .lst x) trivial
theorem SS.b_parked (h : SS M s ls S) : M (ls .parked) = some (.lst S.parked) := h.box .parked nofun
theorem SS.p_parked (h : SS M s ls S) {x : List D} : SS (mset M (ls .parked) (.lst x)) s ls { S with parked := x } := h.put (i := .parked) (o := .lst x) nofun trivial
theorem TT.b_early (h : TT M t lt S) : M (lt .early) = some (.lst S.early) := h.box .early
theorem TT.p_early (h : TT M t lt S) {x : List D} : TT (mset M (lt .early) (.lst x)) t lt { S with early := x } := h.put (i := .early) (o := .lst x) trivial
theorem SS.b_early (h : SS M s ls S) : M (ls .early) = some (.lst S.early) := h.box .early nofun
theorem SS.p_early (h : SS M s ls S) {x : List D} : SS (mset M (ls .early) (.lst x)) s ls { S with early := x } := h.put (i := .early) (o := .lst x) nofun trivial
theorem TT.b_waiting (h : TT M t lt S) : M (lt .waiting) = some (.lst S.waiting) := h.box .waiting
theorem TT.p_waiting (h : TT M t lt S) {x : List D} : TT (mset M (lt .waiting) (.lst x)) t lt { S with waiting := x } := h.put (i := .waiting) (o := .lst x) trivial
theorem SS.b_waiting (h : SS M s ls S) : M (ls .waiting) = some (.lst S.waiting) := h.box .waiting nofun
theorem SS.p_waiting (h : SS M s ls S) {x : List D} : SS (mset M (ls .waiting) (.lst x)) s ls { S with waiting := x } := h.put (i := .waiting) (o := .lst x) nofun trivial
theorem TT.b_listeners (h : TT M t lt S) : M (lt .listeners) = some (.lst S.listeners) := h.box .listeners
theorem TT.p_listeners (h : TT M t lt S) {x : List D} : TT (mset M (lt .listeners) (.lst x)) t lt { S with listeners := x } := h.put (i := .listeners) (o := .lst x) trivial
theorem SS.b_listeners (h : SS M s ls S) : M (ls .listeners) = some (.lst S.listeners) := h.box .listeners nofun
theorem SS.p_listeners (h : SS M s ls S) {x : List D} : SS (mset M (ls .listeners) (.lst x)) s ls { S with listeners := x } := h.put (i := .listeners) (o := .lst x) nofun trivial
theorem TT.b_pins (h : TT M t lt S) : M (lt .pins) = some (.dcT S.pins) := h.box .pins
theorem TT.p_pins (h : TT M t lt S) {x : List (D × D)} : TT (mset M (lt .pins) (.dcT x)) t lt { S with pins := x } := h.put (i := .pins) (o := .dcT x) trivial
theorem SS.b_pins (h : SS M s ls S) : M (ls .pins) = some (.dcT S.pins) := h.box .pins nofun
theorem SS.p_pins (h : SS M s ls S) {x : List (D × D)} : SS (mset M (ls .pins) (.dcT x)) s ls { S with pins := x } := h.put (i := .pins) (o := .dcT x) nofun trivial
theorem TT.b_transfers (h : TT M t lt S) : M (lt .transfers) = some (.lst S.transfers) := h.box .transfers
theorem TT.p_transfers (h : TT M t lt S) {x : List D} : TT (mset M (lt .transfers) (.lst x)) t lt { S with transfers := x } := h.put (i := .transfers) (o := .lst x) trivial
theorem SS.b_transfers (h : SS M s ls S) : M (ls .transfers) = some (.lst S.transfers) := h.box .transfers nofun
theorem SS.p_transfers (h : SS M s ls S) {x : List D} : SS (mset M (ls .transfers) (.lst x)) s ls { S with transfers := x } := h.put (i := .transfers) (o := .lst x) nofun trivial
theorem TT.b_out (h : TT M t lt S) : M (lt .out) = some (.lst S.out) := h.box .out
theorem TT.p_out (h : TT M t lt S) {x : List D} : TT (mset M (lt .out) (.lst x)) t lt { S with out := x } := h.put (i := .out) (o := .lst x) trivial
theorem SS.b_out (h : SS M s ls S) : M (ls .out) = some (.lst S.out) := h.box .out nofun
theorem SS.p_out (h : SS M s ls S) {x : List D} : SS (mset M (ls .out) (.lst x)) s ls { S with out := x } := h.put (i := .out) (o := .lst x) nofun trivial
theorem TT.b_log (h : TT M t lt S) : M (lt .log) = some (.lst S.log) := h.box .log
theorem TT.p_log (h : TT M t lt S) {x : List D} : TT (mset M (lt .log) (.lst x)) t lt { S with log := x } := h.put (i := .log) (o := .lst x) trivial
theorem SS.b_log (h : SS M s ls S) : M (ls .log) = some (.lst S.log) := h.box .log nofun
theorem SS.p_log (h : SS M s ls S) {x : List D} : SS (mset M (ls .log) (.lst x)) s ls { S with log := x } := h.put (i := .log) (o := .lst x) nofun trivial
theorem TT.b_order (h : TT M t lt S) : M (lt .order) = some (.lst S.order) := h.box .order
theorem TT.p_order (h : TT M t lt S) {x : List D} : TT (mset M (lt .order) (.lst x)) t lt { S with order := x } := h.put (i := .order) (o := .lst x) trivial
theorem TT.w_made (h : TT M t lt S) (hF : FlT P) {x : Int} : wpSetFld P (.ref t) "made" (.int x) M km ↔ km (mset M t (.ins 0 (Tb.ins { S with made := x } lt))) := by
  rw [w_setFld h.ins]
  exact ⟨fun h => h.2, fun k => ⟨⟨hF _ (by decide), by show 24 < 900; decide⟩, k⟩⟩
theorem TT.p_made (h : TT M t lt S) {x : Int} : TT (mset M t (.ins 0 (Tb.ins { S with made := x } lt))) t lt { S with made := x } := ⟨h.inj, h.ne, mset_same, fun i => by rw [mset_ne (h.ne i)]; exact (h.box i).trans (by cases i <;> rfl)⟩
theorem TT.w_sent (h : TT M t lt S) (hF : FlT P) {x : Int} : wpSetFld P (.ref t) "sent" (.int x) M km ↔ km (mset M t (.ins 0 (Tb.ins { S with sent := x } lt))) := by
  rw [w_setFld h.ins]
  exact ⟨fun h => h.2, fun k => ⟨⟨hF _ (by decide), by show 24 < 900; decide⟩, k⟩⟩
theorem TT.p_sent (h : TT M t lt S) {x : Int} : TT (mset M t (.ins 0 (Tb.ins { S with sent := x } lt))) t lt { S with sent := x } := ⟨h.inj, h.ne, mset_same, fun i => by rw [mset_ne (h.ne i)]; exact (h.box i).trans (by cases i <;> rfl)⟩
theorem TT.w_asked (h : TT M t lt S) (hF : FlT P) {x : Int} : wpSetFld P (.ref t) "asked" (.int x) M km ↔ km (mset M t (.ins 0 (Tb.ins { S with asked := x } lt))) := by
  rw [w_setFld h.ins]
  exact ⟨fun h => h.2, fun k => ⟨⟨hF _ (by decide), by show 24 < 900; decide⟩, k⟩⟩
theorem TT.p_asked (h : TT M t lt S) {x : Int} : TT (mset M t (.ins 0 (Tb.ins { S with asked := x } lt))) t lt { S with asked := x } := ⟨h.inj, h.ne, mset_same, fun i => by rw [mset_ne (h.ne i)]; exact (h.box i).trans (by cases i <;> rfl)⟩
theorem SS.w_made (h : SS M s ls S) {x : Int} : wpSetIx (.ref s) (.str "made") (.int x) M km ↔ km (mset M s (.dct (Tb.dct { S with made := x } ls))) := by
  rw [w_setD h.dct]
  exact ⟨fun h => h.2, fun k => ⟨⟨rfl, by show 23 < PySem.sizeLine; decide⟩, k⟩⟩
theorem SS.p_made (h : SS M s ls S) {x : Int} : SS (mset M s (.dct (Tb.dct { S with made := x } ls))) s ls { S with made := x } := ⟨h.inj, h.ne, mset_same, fun i n => by rw [mset_ne (h.ne i n)]; exact (h.box i n).trans (by cases i <;> rfl)⟩
theorem SS.w_sent (h : SS M s ls S) {x : Int} : wpSetIx (.ref s) (.str "sent") (.int x) M km ↔ km (mset M s (.dct (Tb.dct { S with sent := x } ls))) := by
  rw [w_setD h.dct]
  exact ⟨fun h => h.2, fun k => ⟨⟨rfl, by show 23 < PySem.sizeLine; decide⟩, k⟩⟩
theorem SS.p_sent (h : SS M s ls S) {x : Int} : SS (mset M s (.dct (Tb.dct { S with sent := x } ls))) s ls { S with sent := x } := ⟨h.inj, h.ne, mset_same, fun i n => by rw [mset_ne (h.ne i n)]; exact (h.box i n).trans (by cases i <;> rfl)⟩
theorem SS.w_asked (h : SS M s ls S) {x : Int} : wpSetIx (.ref s) (.str "asked") (.int x) M km ↔ km (mset M s (.dct (Tb.dct { S with asked := x } ls))) := by
  rw [w_setD h.dct]
  exact ⟨fun h => h.2, fun k => ⟨⟨rfl, by show 23 < PySem.sizeLine; decide⟩, k⟩⟩
theorem SS.p_asked (h : SS M s ls S) {x : Int} : SS (mset M s (.dct (Tb.dct { S with asked := x } ls))) s ls { S with asked := x } := ⟨h.inj, h.ne, mset_same, fun i n => by rw [mset_ne (h.ne i n)]; exact (h.box i n).trans (by cases i <;> rfl)⟩
theorem SS.w_top (h : SS M s ls S) {x : Int} : wpSetIx (.ref s) (.str "top") (.int x) M km ↔ km (mset M s (.dct (Tb.dct { S with top := x } ls))) := by
  rw [w_setD h.dct]
  exact ⟨fun h => h.2, fun k => ⟨⟨rfl, by show 23 < PySem.sizeLine; decide⟩, k⟩⟩
theorem SS.p_top (h : SS M s ls S) {x : Int} : SS (mset M s (.dct (Tb.dct { S with top := x } ls))) s ls { S with top := x } := ⟨h.inj, h.ne, mset_same, fun i n => by rw [mset_ne (h.ne i n)]; exact (h.box i n).trans (by cases i <;> rfl)⟩
end
end L3
end
section
set_option autoImplicit false
set_option linter.all false
set_option maxRecDepth 100000
/-! L3: small data, weights, references -/
namespace L3
open PySem (Addr Str PyData NestedKey)

/-! ### small data: ints below 2 ^ 60, texts, tuples of such -/
mutual
def D.sm : D → Bool
  | .non => true
  | .bl _ => true
  | .int i => decide (i.natAbs < 2 ^ 60)
  | .str x => x.cps.toList.all fun c => decide (c < 16 ^ 8)
  | .tup ds => D.sms ds
  | _ => false
def D.sms : List D → Bool
  | [] => true
  | d :: ds => d.sm && D.sms ds
end
mutual
/-- how much text it takes -/
def D.bk : D → Nat
  | .str x => x.cps.size
  | .tup ds => D.bks ds
  | _ => 0
def D.bks : List D → Nat
  | [] => 0
  | d :: ds => d.bk + 1 + D.bks ds
end
mutual
def D.dp : D → Nat
  | .tup ds => D.dps ds + 1
  | _ => 0
def D.dps : List D → Nat
  | [] => 0
  | d :: ds => max d.dp (D.dps ds)
end
mutual
/-- data of which == says what it is -/
def D.ex : D → Bool
  | .int _ => true
  | .str _ => true
  | .tup ds => D.exs ds
  | _ => false
def D.exs : List D → Bool
  | [] => true
  | d :: ds => d.ex && D.exs ds
end
theorem band_e {a b : Bool} (h : (a && b) = true) : a = true ∧ b = true := by rw [Bool.and_eq_true] at h; exact h
theorem band_i {a b : Bool} (h1 : a = true) (h2 : b = true) : (a && b) = true := by rw [h1, h2]; rfl
mutual
theorem sm_pure : ∀ {d : D}, d.sm = true → d.pure = true
  | .non, _ => rfl
  | .bl _, _ => rfl
  | .int _, _ => rfl
  | .str _, _ => rfl
  | .tup ds, h => sms_pure (ds := ds) h
  | .kt _, h => nomatch h
  | .ref _, h => nomatch h
  | .exn _ _, h => nomatch h
  | .kl _, h => nomatch h
theorem sms_pure : ∀ {ds : List D}, D.sms ds = true → D.pures ds = true
  | [], _ => rfl
  | d :: ds, h => band_i (sm_pure (band_e (a := d.sm) h).1) (sms_pure (band_e (a := d.sm) h).2)
end
mutual
theorem sm_deep {M : Mp} : ∀ {d : D}, d.sm = true → Deep M d d.py
  | .non, _ => .non
  | .bl _, _ => .bl _
  | .int _, _ => .int _
  | .str _, _ => .str _
  | .tup ds, h => .tup (sms_deep (ds := ds) h)
  | .kt _, h => nomatch h
  | .ref _, h => nomatch h
  | .exn _ _, h => nomatch h
  | .kl _, h => nomatch h
theorem sms_deep {M : Mp} : ∀ {ds : List D}, D.sms ds = true → Deeps M ds (D.pys ds)
  | [], _ => .nil
  | d :: ds, h => .cons (sm_deep (band_e (a := d.sm) h).1) (sms_deep (band_e (a := d.sm) h).2)
end
theorem shown_int {i : Int} {k : Nat} (hk : 0 < k) (h : i.natAbs < 2 ^ k) : (PyData.int i).shown.length ≤ k + 1 := by
  show (PySem.Str.ofString (toString i)).length ≤ k + 1
  rw [PySem.ofString_length]
  refine PySem.int_text_length_le hk ?_
  by_cases h0 : i.natAbs = 0
  · rw [h0]; show Nat.log2 0 < k; simpa using hk
  · exact (Nat.log2_lt h0).mpr h
theorem show_int {i : Int} (h : i.natAbs < 2 ^ 60) : (PyData.int i).showable = true ∧ (PyData.int i).leavesShort 64 = true := by
  refine ⟨?_, ?_⟩
  · show decide (i.natAbs.log2 < 1920) = true
    refine decide_eq_true ?_
    by_cases h0 : i.natAbs = 0
    · rw [h0]; decide
    · refine (Nat.log2_lt h0).mpr (Nat.lt_of_lt_of_le h ?_)
      exact Nat.pow_le_pow_right (by decide) (by decide)
  · show decide ((PyData.int i).shown.length ≤ 64) = true
    exact decide_eq_true (Nat.le_trans (shown_int (k := 60) (by decide) h) (by decide))
mutual
theorem sm_show : ∀ {d : D}, d.sm = true → d.py.showable = true ∧ d.py.leavesShort 64 = true
  | .non, _ => ⟨rfl, rfl⟩
  | .bl _, _ => ⟨rfl, rfl⟩
  | .int _, h => show_int (of_decide_eq_true h)
  | .str _, h => ⟨rfl, h⟩
  | .tup ds, h => sms_show (ds := ds) h
  | .kt _, h => nomatch h
  | .ref _, h => nomatch h
  | .exn _ _, h => nomatch h
  | .kl _, h => nomatch h
theorem sms_show : ∀ {ds : List D}, D.sms ds = true → PyData.showableAll (D.pys ds) = true ∧ PyData.leavesShortAll 64 (D.pys ds) = true
  | [], _ => ⟨rfl, rfl⟩
  | d :: ds, h =>
    have a := sm_show (band_e (a := d.sm) h).1
    have b := sms_show (band_e (a := d.sm) h).2
    ⟨band_i a.1 b.1, band_i a.2 b.2⟩
end
mutual
theorem bk_py : ∀ {d : D}, d.sm = true → d.py.bulk = d.bk
  | .non, _ => rfl
  | .bl _, _ => rfl
  | .int _, _ => rfl
  | .str _, _ => rfl
  | .tup ds, h => bks_py (ds := ds) h
  | .kt _, h => nomatch h
  | .ref _, h => nomatch h
  | .exn _ _, h => nomatch h
  | .kl _, h => nomatch h
theorem bks_py : ∀ {ds : List D}, D.sms ds = true → PyData.bulkAll (D.pys ds) = D.bks ds
  | [], _ => rfl
  | d :: ds, h => by
    show d.py.bulk + 1 + PyData.bulkAll (D.pys ds) = d.bk + 1 + D.bks ds
    rw [bk_py (band_e (a := d.sm) h).1, bks_py (band_e (a := d.sm) h).2]
end
mutual
theorem dp_py : ∀ {d : D}, d.sm = true → d.py.depth = d.dp
  | .non, _ => rfl
  | .bl _, _ => rfl
  | .int _, _ => rfl
  | .str _, _ => rfl
  | .tup ds, h => by
    show PyData.depthAll (D.pys ds) + 1 = D.dps ds + 1
    rw [dps_py (ds := ds) h]
  | .kt _, h => nomatch h
  | .ref _, h => nomatch h
  | .exn _ _, h => nomatch h
  | .kl _, h => nomatch h
theorem dps_py : ∀ {ds : List D}, D.sms ds = true → PyData.depthAll (D.pys ds) = D.dps ds
  | [], _ => rfl
  | d :: ds, h => by
    show max d.py.depth (PyData.depthAll (D.pys ds)) = max d.dp (D.dps ds)
    rw [dp_py (band_e (a := d.sm) h).1, dps_py (band_e (a := d.sm) h).2]
end
mutual
theorem dp_key : ∀ {d : D}, d.sm = true → d.key.depth = d.dp
  | .non, _ => rfl
  | .bl _, _ => rfl
  | .int _, _ => rfl
  | .str _, _ => rfl
  | .tup ds, h => by
    show NestedKey.depthAll (D.keys ds) + 1 = D.dps ds + 1
    rw [dps_key (ds := ds) h]
  | .kt _, h => nomatch h
  | .ref _, h => nomatch h
  | .exn _ _, h => nomatch h
  | .kl _, h => nomatch h
theorem dps_key : ∀ {ds : List D}, D.sms ds = true → NestedKey.depthAll (D.keys ds) = D.dps ds
  | [], _ => rfl
  | d :: ds, h => by
    show max d.key.depth (NestedKey.depthAll (D.keys ds)) = max d.dp (D.dps ds)
    rw [dp_key (band_e (a := d.sm) h).1, dps_key (band_e (a := d.sm) h).2]
end
theorem sm_flat {d : D} (h : d.sm = true) (hd : d.dp ≤ 8) : d.flat = true := band_i (sm_pure h) (decide_eq_true (by rw [dp_key h]; exact hd))
theorem sm_hkT {ds : List D} (h : D.sms ds = true) (hd : D.dps ds + 1 ≤ 8) : (D.tup ds).hkT = true := band_i (sms_pure h) (decide_eq_true (by rw [dp_key (d := .tup ds) h]; exact hd))
mutual
theorem ex_key : ∀ {x y : D}, x.ex = true → y.ex = true → x.key = y.key → x = y
  | .int i, .int j, _, _, e => by cases e; rfl
  | .str i, .str j, _, _, e => by cases e; rfl
  | .int i, .str j, _, _, e => nomatch e
  | .str i, .int j, _, _, e => nomatch e
  | .int i, .tup j, _, _, e => nomatch e
  | .tup i, .int j, _, _, e => nomatch e
  | .str i, .tup j, _, _, e => nomatch e
  | .tup i, .str j, _, _, e => nomatch e
  | .tup ds, .tup es, h1, h2, e => by
    have : D.keys ds = D.keys es := by
      have e' : NestedKey.tup (D.keys ds) = .tup (D.keys es) := e
      exact NestedKey.tup.inj e'
    rw [exs_key (ds := ds) (es := es) h1 h2 this]
  | .non, _, h, _, _ => nomatch h
  | .bl _, _, h, _, _ => nomatch h
  | .kt _, _, h, _, _ => nomatch h
  | .ref _, _, h, _, _ => nomatch h
  | .exn _ _, _, h, _, _ => nomatch h
  | .kl _, _, h, _, _ => nomatch h
  | _, .non, _, h, _ => nomatch h
  | _, .bl _, _, h, _ => nomatch h
  | _, .kt _, _, h, _ => nomatch h
  | _, .ref _, _, h, _ => nomatch h
  | _, .exn _ _, _, h, _ => nomatch h
  | _, .kl _, _, h, _ => nomatch h
theorem exs_key : ∀ {ds es : List D}, D.exs ds = true → D.exs es = true → D.keys ds = D.keys es → ds = es
  | [], [], _, _, _ => rfl
  | [], _ :: _, _, _, e => nomatch e
  | _ :: _, [], _, _, e => nomatch e
  | d :: ds, c :: es, h1, h2, e => by
    have e' : d.key :: D.keys ds = c.key :: D.keys es := e
    rw [ex_key (band_e (a := d.ex) h1).1 (band_e (a := c.ex) h2).1 (List.cons.inj e').1, exs_key (band_e (a := d.ex) h1).2 (band_e (a := c.ex) h2).2 (List.cons.inj e').2]
end
theorem eqv_ex {x y : D} (hx : x.ex = true) (hy : y.ex = true) : x.eqv y = true ↔ x = y := by
  constructor
  · exact fun h => ex_key hx hy (NestedKey.eq_of_beq _ _ h)
  · rintro rfl; exact eqv_refl x
theorem eqv_symm {x y : D} (h : x.eqv y = true) : y.eqv x = true := by
  have e := NestedKey.eq_of_beq _ _ h
  show NestedKey.beq y.key x.key = true
  rw [e]; exact NestedKey.beq_self _
theorem eqv_trans {x y z : D} (h : x.eqv y = true) (h2 : y.eqv z = true) : x.eqv z = true := by
  have e := NestedKey.eq_of_beq _ _ h
  show NestedKey.beq x.key z.key = true
  rw [e]; exact h2
/-! several at once -/
theorem sms_all {ds : List D} : D.sms ds = true ↔ ∀ d ∈ ds, d.sm = true := by
  induction ds with
  | nil => exact ⟨fun _ _ h => absurd h List.not_mem_nil, fun _ => rfl⟩
  | cons d ds ih =>
    constructor
    · intro h x hx
      have h' := band_e (a := d.sm) h
      rcases List.mem_cons.mp hx with rfl | hx
      · exact h'.1
      · exact ih.mp h'.2 x hx
    · exact fun h => band_i (h d List.mem_cons_self) (ih.mpr fun x hx => h x (List.mem_cons_of_mem _ hx))
theorem bks_app {a b : List D} : D.bks (a ++ b) = D.bks a + D.bks b := by
  induction a with
  | nil => simp [D.bks]
  | cons d a ih => rw [List.cons_append, D.bks, D.bks, ih]; omega
theorem bks_le {n : Nat} {ds : List D} (h : ∀ d ∈ ds, d.bk ≤ n) : D.bks ds ≤ (n + 1) * ds.length := by
  induction ds with
  | nil => simp [D.bks]
  | cons d ds ih =>
    have := h d List.mem_cons_self
    have := ih fun x hx => h x (List.mem_cons_of_mem _ hx)
    rw [D.bks, List.length_cons, Nat.mul_succ]; omega
theorem dps_le {n : Nat} {ds : List D} (h : ∀ d ∈ ds, d.dp ≤ n) : D.dps ds ≤ n := by
  induction ds with
  | nil => simp [D.dps]
  | cons d ds ih =>
    have := h d List.mem_cons_self
    have := ih fun x hx => h x (List.mem_cons_of_mem _ hx)
    rw [D.dps]; omega

/-! ### weights -/
/-- a pair brought to its lowest form -/
def low : Int → Nat → Int × Nat
  | n, 0 => (n, 0)
  | n, e + 1 => if n % 2 = 0 then low (n / 2) e else (n, e + 1)
theorem low_zero : ∀ e : Nat, low 0 e = (0, 0)
  | 0 => rfl
  | e + 1 => by
    unfold low
    rw [if_pos (by decide)]
    exact low_zero e
theorem low_even {n : Int} {e : Nat} (h : n % 2 = 0) : low n (e + 1) = low (n / 2) e := by
  rw [low, if_pos h]
theorem low_odd {n : Int} {e : Nat} (h : ¬ n % 2 = 0) : low n e = (n, e) := by
  cases e with
  | zero => rfl
  | succ e => rw [low, if_neg h]
theorem low_le : ∀ (e : Nat) (n : Int), (low n e).2 ≤ e
  | 0, n => Nat.le_refl _
  | e + 1, n => by
    unfold low
    split
    · exact Nat.le_succ_of_le (low_le e _)
    · exact Nat.le_refl _
abbrev W := Int × Nat
def pr (x : W) : D := .tup [.int x.1, .int x.2]
def halfW (x : W) : W := low x.1 (x.2 + 1)
def upW (x : W) (E : Nat) : Int := x.1 * 2 ^ (E - x.2)
def addW (x y : W) : W := low (upW x (max x.2 y.2) + upW y (max x.2 y.2)) (max x.2 y.2)
def subW (x y : W) : W := low (upW x (max x.2 y.2) - upW y (max x.2 y.2)) (max x.2 y.2)
/-- a weight no greater than V, its exponent no greater than K -/
def WOk (V K : Nat) (x : W) : Prop := x.1.natAbs ≤ V * 2 ^ x.2 ∧ x.2 ≤ K
theorem WOk.mono {V K V' K' : Nat} {x : W} (h : WOk V K x) (h1 : V ≤ V') (h2 : K ≤ K') : WOk V' K' x := ⟨Nat.le_trans h.1 (Nat.mul_le_mul_right _ h1), Nat.le_trans h.2 h2⟩
theorem low_ok {V : Nat} : ∀ (e : Nat) (n : Int), n.natAbs ≤ V * 2 ^ e → WOk V e (low n e)
  | 0, n, h => ⟨h, Nat.le_refl _⟩
  | e + 1, n, h => by
    unfold low
    split
    · rename_i h2
      have h3 : (n / 2).natAbs ≤ V * 2 ^ e := by
        rw [Nat.pow_succ, ← Nat.mul_assoc] at h
        omega
      exact (low_ok e (n / 2) h3).mono (Nat.le_refl _) (Nat.le_succ _)
    · exact ⟨h, Nat.le_refl _⟩
theorem upW_ok {V K E : Nat} {x : W} (h : WOk V K x) (hE : x.2 ≤ E) : (upW x E).natAbs ≤ V * 2 ^ E := by
  unfold upW
  rw [Int.natAbs_mul, Int.natAbs_pow]
  calc x.1.natAbs * 2 ^ (E - x.2) ≤ V * 2 ^ x.2 * 2 ^ (E - x.2) := Nat.mul_le_mul_right _ h.1
    _ = V * 2 ^ E := by rw [Nat.mul_assoc, ← Nat.pow_add, show x.2 + (E - x.2) = E by omega]
theorem halfW_ok {V K : Nat} {x : W} (h : WOk V K x) : WOk V (K + 1) (halfW x) := by
  refine (low_ok (V := V) (x.2 + 1) x.1 ?_).mono (Nat.le_refl _) (by have := h.2; omega)
  rw [Nat.pow_succ, ← Nat.mul_assoc]
  have := h.1
  omega
theorem addW_ok {V K V' K' : Nat} {x y : W} (h : WOk V K x) (h' : WOk V' K' y) : WOk (V + V') (max K K') (addW x y) := by
  have a := upW_ok (E := max x.2 y.2) h (Nat.le_max_left _ _)
  have b := upW_ok (E := max x.2 y.2) h' (Nat.le_max_right _ _)
  refine (low_ok (V := V + V') _ _ ?_).mono (Nat.le_refl _) (by have := h.2; have := h'.2; omega)
  rw [Nat.add_mul]
  omega
theorem subW_ok {V K V' K' : Nat} {x y : W} (h : WOk V K x) (h' : WOk V' K' y) : WOk (V + V') (max K K') (subW x y) := by
  have a := upW_ok (E := max x.2 y.2) h (Nat.le_max_left _ _)
  have b := upW_ok (E := max x.2 y.2) h' (Nat.le_max_right _ _)
  refine (low_ok (V := V + V') _ _ ?_).mono (Nat.le_refl _) (by have := h.2; have := h'.2; omega)
  rw [Nat.add_mul]
  omega
theorem WOk.lt {V K : Nat} {x : W} (h : WOk V K x) (hV : V ≤ 2 ^ 20) (hK : K ≤ 39) : x.1.natAbs < 2 ^ 60 ∧ x.2 ≤ 39 := by
  refine ⟨?_, Nat.le_trans h.2 hK⟩
  have h1 : (2 : Nat) ^ x.2 ≤ 2 ^ 39 := Nat.pow_le_pow_right (by decide) (Nat.le_trans h.2 hK)
  calc x.1.natAbs ≤ V * 2 ^ x.2 := h.1
    _ ≤ 2 ^ 20 * 2 ^ 39 := Nat.mul_le_mul hV h1
    _ < 2 ^ 60 := by decide
theorem pr_sm {V K : Nat} {x : W} (h : WOk V K x) (hV : V ≤ 2 ^ 20) (hK : K ≤ 39) : (pr x).sm = true := by
  obtain ⟨a, b⟩ := h.lt hV hK
  refine band_i (decide_eq_true a) (band_i (decide_eq_true ?_) rfl)
  have : (39 : Nat) < 2 ^ 60 := by decide
  omega
/-- a weight is told from another -/
theorem pr_ex (x : W) : (pr x).ex = true := rfl
theorem pr_inj {x y : W} (h : pr x = pr y) : x = y := by
  cases x; cases y
  simp only [pr, D.tup.injEq, List.cons.injEq, D.int.injEq, and_true] at h
  rw [h.1, Int.ofNat_inj.mp h.2]

/-! ### dicts -/
theorem dget_put {kvs : List (D × D)} {k v x : D} (hx : x.eqv k = true) : dget (dput kvs k v) x = some v := by
  unfold dput
  split
  · rename_i h
    unfold dget
    induction kvs with
    | nil => exact absurd h (by simp [dhas])
    | cons p r ih =>
      rw [List.map_cons, List.find?_cons]
      by_cases e : p.1.eqv k = true
      · rw [if_pos e]
        have : p.1.eqv x = true := eqv_trans e (eqv_symm hx)
        simp only [this]; rfl
      · rw [if_neg e]
        have n : ¬ p.1.eqv x = true := fun z => e (eqv_trans z hx)
        simp only [Bool.not_eq_true] at n
        simp only [n]
        refine ih ?_
        unfold dhas at h ⊢
        rw [List.any_cons] at h
        simpa [e] using h
  · rename_i h
    unfold dget
    rw [List.find?_append]
    have : kvs.find? (fun p => p.1.eqv x) = none := by
      rw [List.find?_eq_none]
      intro p hp z
      refine h ?_
      unfold dhas
      rw [List.any_eq_true]
      exact ⟨p, hp, eqv_trans z hx⟩
    rw [this]
    simp [eqv_symm hx]
theorem dget_put_ne {kvs : List (D × D)} {k v x : D} (hx : ¬ x.eqv k = true) : dget (dput kvs k v) x = dget kvs x := by
  unfold dput
  split
  · unfold dget
    congr 1
    have : ∀ l : List (D × D), ((l.map fun p => if p.1.eqv k = true then (p.1, v) else p).find? fun p => p.1.eqv x) = (l.find? fun p => p.1.eqv x) := by
      intro l
      induction l with
      | nil => rfl
      | cons p r ih =>
        rw [List.map_cons, List.find?_cons, List.find?_cons]
        by_cases e : p.1.eqv k = true
        · rw [if_pos e]
          have : p.1.eqv x = false := by
            rw [Bool.eq_false_iff]; exact fun z => hx (eqv_trans (eqv_symm z) e)
          simp only [this]; exact ih
        · rw [if_neg e, ih]
    exact this kvs
  · unfold dget
    rw [List.find?_append]
    cases kvs.find? fun p => p.1.eqv x with
    | some q => rfl
    | none =>
      have : k.eqv x = false := by rw [Bool.eq_false_iff]; exact fun z => hx (eqv_symm z)
      simp [this]
theorem dhas_iff {kvs : List (D × D)} {k : D} : dhas kvs k = true ↔ ∃ v, dget kvs k = some v := by
  unfold dhas dget
  rw [List.any_eq_true]
  constructor
  · rintro ⟨p, hp, e⟩
    cases h : kvs.find? fun p => p.1.eqv k with
    | some q => exact ⟨q.2, rfl⟩
    | none => exact absurd e (List.find?_eq_none.mp h p hp)
  · rintro ⟨v, h⟩
    cases h2 : kvs.find? fun p => p.1.eqv k with
    | some q => exact ⟨q, List.mem_of_find?_eq_some h2, (List.find?_some h2 :)⟩
    | none => rw [h2] at h; cases h
theorem dget_mem {kvs : List (D × D)} {k v : D} (h : dget kvs k = some v) : ∃ p ∈ kvs, p.1.eqv k = true ∧ p.2 = v := by
  unfold dget at h
  cases h2 : kvs.find? fun p => p.1.eqv k with
  | some q => rw [h2] at h; cases h; exact ⟨q, List.mem_of_find?_eq_some h2, (List.find?_some h2 :), rfl⟩
  | none => rw [h2] at h; cases h
/-- what holds of every pair -/
def Pairs (K V : D → Prop) (kvs : List (D × D)) : Prop := ∀ p ∈ kvs, K p.1 ∧ V p.2
theorem Pairs.put {K V : D → Prop} {kvs : List (D × D)} {k v : D} (h : Pairs K V kvs) (hk : K k) (hv : V v) : Pairs K V (dput kvs k v) := by
  unfold dput
  split
  · intro p hp
    obtain ⟨q, hq, e⟩ := List.mem_map.mp hp
    split at e
    · subst e; exact ⟨(h q hq).1, hv⟩
    · subst e; exact h q hq
  · intro p hp
    rcases List.mem_append.mp hp with hp | hp
    · exact h p hp
    · rw [List.mem_singleton] at hp; subst hp; exact ⟨hk, hv⟩
theorem Pairs.del {K V : D → Prop} {kvs : List (D × D)} {k : D} (h : Pairs K V kvs) : Pairs K V (ddel kvs k) := fun p hp => h p (List.mem_filter.mp hp).1
theorem Pairs.get {K V : D → Prop} {kvs : List (D × D)} {k v : D} (h : Pairs K V kvs) (e : dget kvs k = some v) : V v := by
  obtain ⟨p, hp, _, rfl⟩ := dget_mem e
  exact (h p hp).2
theorem dput_len {kvs : List (D × D)} {k v : D} : (dput kvs k v).length ≤ kvs.length + 1 := by
  unfold dput
  split
  · rw [List.length_map]; omega
  · simp
theorem ddel_len {kvs : List (D × D)} {k : D} : (ddel kvs k).length ≤ kvs.length := List.length_filter_le _ _
end L3
end
section
set_option autoImplicit false
set_option linter.all false
set_option maxRecDepth 100000
/-! L3: more readings -/
namespace L3
open PySem (Addr Str PyData NestedKey)
section
variable {P : Pr} {M : Mp} {Q : Post} {k : Bool → Prop} {a : Addr} {kvs : List (D × D)} {x y z v d : D} {R : ItR} {km : Mp → Prop} {ds es : List D}
theorem w_rcvD (h : M a = some (.dct kvs)) : rcv (.ref a) M = some .dct := by simp only [rcv, h]
theorem w_rcvT (h : M a = some (.dcT kvs)) : rcv (.ref a) M = some .dct := by simp only [rcv, h]
theorem w_rcvLt (h : M a = some (.lst ds)) : rcv (.ref a) M = some .lst := by simp only [rcv, h]
theorem w_ixT (h : M a = some (.dcT kvs)) : wpIx (.ref a) y M Q ↔ y.hkT = true ∧ ∃ d, dget kvs y = some d ∧ Q d M := by cases y <;> simp only [wpIx, h]
theorem w_ixLkT (h : M a = some (.lkT kvs)) : wpIx (.ref a) y M Q ↔ y.hkT = true ∧ ∃ d, dget kvs y = some d ∧ Q d M := by cases y <;> simp only [wpIx, h]
theorem w_inT (h : M a = some (.dcT kvs)) : wpIn y (.ref a) M k ↔ y.hkT = true ∧ k (dhas kvs y) := by simp only [wpIn, h]
theorem w_setT (h : M a = some (.dcT kvs)) : wpSetIx (.ref a) y v M km ↔ (y.hkT = true ∧ kvs.length < PySem.sizeLine) ∧ km (mset M a (.dcT (dput kvs y v))) := by cases y <;> simp only [wpSetIx, h]
theorem w_getD (h : M a = some (.dct kvs)) : wpMth .get (.ref a) [y, z] M Q ↔ y.hk1 = true ∧ Q ((dget kvs y).getD z) M := by
  simp only [wpMth, h, wpDm, MO.dk]
  constructor
  · rintro ⟨l, e, q⟩
    split at e
    · cases e; exact ⟨by assumption, q⟩
    · cases e
  · rintro ⟨h1, q⟩; exact ⟨kvs, by rw [if_pos h1], q⟩
theorem w_getT (h : M a = some (.dcT kvs)) : wpMth .get (.ref a) [y, z] M Q ↔ y.hkT = true ∧ Q ((dget kvs y).getD z) M := by
  simp only [wpMth, h, wpDm, MO.dk]
  constructor
  · rintro ⟨l, e, q⟩
    split at e
    · cases e; exact ⟨by assumption, q⟩
    · cases e
  · rintro ⟨h1, q⟩; exact ⟨kvs, by rw [if_pos h1], q⟩
theorem w_popT (h : M a = some (.dcT kvs)) : wpMth .pop (.ref a) [y] M Q ↔ y.hkT = true ∧ ∃ d, dget kvs y = some d ∧ Q d (mset M a (.dcT (ddel kvs y))) := by simp only [wpMth, h, wpDm]
theorem w_delT (h : M a = some (.dcT kvs)) : wpDel (.ref a) y M km ↔ (y.hkT = true ∧ dhas kvs y = true) ∧ km (mset M a (.dcT (ddel kvs y))) := by simp only [wpDel, h]
theorem w_lenDt (h : M a = some (.dct kvs)) : wpBlt .len [.ref a] M Q ↔ Q (.int kvs.length) M := by simp only [wpBlt, h]
theorem w_lenTt (h : M a = some (.dcT kvs)) : wpBlt .len [.ref a] M Q ↔ Q (.int kvs.length) M := by simp only [wpBlt, h]
theorem w_itT (h : M a = some (.dcT kvs)) : wpIt .plain [.ref a] M R ↔ wpItT (·.map (·.1)) a kvs M R := by simp only [wpIt, h]
theorem w_listT (h : M a = some (.dcT kvs)) : wpBlt .list [.ref a] M Q ↔ wpNew M (.lst (kvs.map (·.1))) Q := by simp only [wpBlt, h]
theorem w_listL (h : M a = some (.lst ds)) : wpBlt .list [.ref a] M Q ↔ wpNew M (.lst ds) Q := by simp only [wpBlt, h]
theorem w_tupL (h : M a = some (.lst ds)) : wpBlt .tuple [.ref a] M Q ↔ Q (.tup ds) M := by simp only [wpBlt, h]
theorem w_liT (h : M a = some (.dcT kvs)) : wpSeq .list .items [.ref a] M Q ↔ wpNew M (.lst (kvs.map pairD)) Q := by simp only [wpSeq, h]
theorem w_siD (h : M a = some (.dct kvs)) : wpSeq .sorted .items [.ref a] M Q ↔ PairsOk kvs ∧ wpNew M (.lst ((srtP kvs).map pairD)) Q := by simp only [wpSeq, h]
theorem w_siT (h : M a = some (.dcT kvs)) : wpSeq .sorted .items [.ref a] M Q ↔ PairsOk kvs ∧ wpNew M (.lst ((srtP kvs).map pairD)) Q := by simp only [wpSeq, h]
theorem w_slL {lo hi : D} (h : M a = some (.lst ds)) : wpSl (.ref a) lo hi M Q ↔ (lo.ion = true ∧ hi.ion = true) ∧ wpNew M (.lst (cut ds lo hi)) Q := by simp only [wpSl, h]
theorem w_slT {lo hi : D} : wpSl (.tup ds) lo hi M Q ↔ (lo.ion = true ∧ hi.ion = true) ∧ Q (.tup (cut ds lo hi)) M := Iff.rfl
theorem w_popLi {i : Int} (h : M a = some (.lst ds)) : wpMth .pop (.ref a) [.int i] M Q ↔ ∃ d, 0 ≤ i ∧ ds[i.toNat]? = some d ∧ Q d (mset M a (.lst (ds.eraseIdx i.toNat))) := by simp only [wpMth, h]
theorem w_enumL (h : M a = some (.lst ds)) : wpIt .enumerate [.ref a] M R ↔ R (enumD ds) (fun M' => M' a = some (.lst ds)) M id := by simp only [wpIt, h]
theorem w_itTup : wpIt .plain [.tup ds] M R ↔ R ds (fun _ => True) M id := Iff.rfl
theorem w_ixTup {i : Int} : wpIx (.tup ds) (.int i) M Q ↔ ∃ d, atD ds i = some d ∧ Q d M := Iff.rfl
theorem w_inTup : wpIn x (.tup ds) M k ↔ (x.flat = true ∧ ∀ d ∈ ds, d.flat = true) ∧ k (ds.any fun z => z.eqv x) := Iff.rfl
theorem w_eqT : wpEq (.tup ds) (.tup es) M k ↔ ((D.tup ds).flat = true ∧ (D.tup es).flat = true) ∧ k ((D.tup ds).eqv (.tup es)) := Iff.rfl
theorem w_eqc : wpCmp .eq x y M k ↔ wpEq x y M k := Iff.rfl
theorem w_nec : wpCmp .ne x y M k ↔ wpEq x y M fun b => k (!b) := Iff.rfl
theorem w_isN : wpCmp .is x .non M k ↔ k x.isNon := by cases x <;> exact Iff.rfl
theorem w_isNN : wpCmp .isNot x .non M k ↔ k (!x.isNon) := by cases x <;> exact Iff.rfl
theorem w_neS {x y : Str} : wpCmp .ne (.str x) (.str y) M k ↔ k (!decide (x = y)) := by
  show (_ ∧ k (!((D.str x).eqv (.str y)))) ↔ _
  rw [eqv_str]
  exact ⟨fun h => h.2, fun h => ⟨⟨rfl, rfl⟩, h⟩⟩
theorem w_intB {b : Bool} : wpBlt .int [.bl b] M Q ↔ Q (.int (if b = true then 1 else 0)) M := Iff.rfl
theorem w_shl {i j : Int} : wpBin .shl (.int i) (.int j) M Q ↔ (0 ≤ j ∧ j ≤ 1000000 ∧ i.natAbs < 2 ^ 64) ∧ Q (.int (i * 2 ^ j.toNat)) M := Iff.rfl

end
theorem mokG : mok (some .dct) .get = true := rfl
theorem mokP : mok (some .dct) .pop = true := rfl
theorem mokA : mok (some .lst) .append = true := rfl
theorem mokE : mok (some .lst) .extend = true := rfl
theorem mokL : mok (some .lst) .pop = true := rfl
theorem mokS : mok (some .str) .index = true := rfl
theorem w_manyL {M : Mp} {a : Addr} {ds : List D} {l : List Nat} {σ : Lo} {kl : Lo → Prop} (h : M a = some (.lst ds)) : wpTg (.many l) (.ref a) σ M kl ↔ ∃ σ', setMany l ds σ = some σ' ∧ kl σ' := by simp only [wpTg, h]
/-- a comprehension that changes nothing -/
theorem compL_pure {body : D → Mp → (Option D → Mp → Prop) → Prop} {G : Mp → Prop} {M : Mp} (g : D → Option D) {Q : List D → Mp → Prop} (hG : G M) :
    ∀ {xs acc : List D}, (∀ x ∈ xs, ∀ kk : Option D → Mp → Prop, kk (g x) M → body x M kk) → acc.length + xs.length ≤ PySem.sizeLine → Q (acc ++ xs.filterMap g) M → compL body G xs acc M Q
  | [], acc, _, _, q => ⟨hG, by simpa using q⟩
  | x :: xs, acc, hb, hl, q => by
    rw [List.length_cons] at hl
    refine ⟨hG, hb x List.mem_cons_self _ ?_⟩
    cases e : g x with
    | none => exact compL_pure g hG (fun y hy => hb y (List.mem_cons_of_mem _ hy)) (by omega) (by rwa [List.filterMap_cons, e] at q)
    | some d =>
      refine ⟨by omega, compL_pure g hG (fun y hy => hb y (List.mem_cons_of_mem _ hy)) (by rw [List.length_append]; simp; omega) ?_⟩
      rw [List.filterMap_cons, e] at q
      simpa using q
/-- .. each item of which comes in; what holds ahead of each turn -/
theorem compL_inv {body : D → Mp → (Option D → Mp → Prop) → Prop} {G : Mp → Prop} {Q : List D → Mp → Prop} {xs : List D} {M : Mp} (I : Nat → List D → Mp → Prop) (h0 : I 0 [] M) (hl : xs.length ≤ PySem.sizeLine)
    (step : ∀ (i : Nat) (x : D) (acc : List D) (M : Mp) (kk : Option D → Mp → Prop), xs[i]? = some x → I i acc M → (∀ d M', I (i + 1) (acc ++ [d]) M' → kk (some d) M') → G M ∧ body x M kk)
    (done : ∀ acc M, I xs.length acc M → G M ∧ Q acc M) : compL body G xs [] M Q := by
  have go : ∀ (l : List D) (i : Nat) (acc : List D) (M : Mp), xs.drop i = l → i ≤ xs.length → acc.length ≤ i → I i acc M → compL body G l acc M Q := by
    intro l
    induction l with
    | nil =>
      intro i acc M e hi ha h
      have e2 : i = xs.length := by have := List.drop_eq_nil_iff.mp e; omega
      subst e2
      exact done acc M h
    | cons x l ih =>
      intro i acc M e hi ha h
      have hx : xs[i]? = some x := by
        have := congrArg List.head? e
        rw [List.head?_drop] at this
        exact this
      have hl' : xs.drop (i + 1) = l := by
        have := congrArg List.tail e
        rw [List.tail_drop] at this
        exact this
      have hlt : i < xs.length := (List.getElem?_eq_some_iff.mp hx).1
      refine step i x acc M _ hx h fun d M' h' => ⟨by omega, ih (i + 1) (acc ++ [d]) M' hl' hlt (by simp; omega) h'⟩
  exact go xs 0 [] M rfl (Nat.zero_le _) (Nat.le_refl _) h0
/-- a comprehension that changes only what it may, leaving out some -/
theorem compL_pick {body : D → Mp → (Option D → Mp → Prop) → Prop} {G : Mp → Prop} {Q : List D → Mp → Prop} {xs : List D} {M : Mp} (I : Nat → List D → Mp → Prop) (h0 : I 0 [] M) (hl : xs.length ≤ PySem.sizeLine)
    (step : ∀ (i : Nat) (x : D) (acc : List D) (M : Mp) (kk : Option D → Mp → Prop), xs[i]? = some x → I i acc M → (∀ M', I (i + 1) acc M' → kk none M') → (∀ d M', I (i + 1) (acc ++ [d]) M' → kk (some d) M') → G M ∧ body x M kk)
    (done : ∀ acc M, I xs.length acc M → G M ∧ Q acc M) : compL body G xs [] M Q := by
  have go : ∀ (l : List D) (i : Nat) (acc : List D) (M : Mp), xs.drop i = l → i ≤ xs.length → acc.length ≤ i → I i acc M → compL body G l acc M Q := by
    intro l
    induction l with
    | nil =>
      intro i acc M e hi ha h
      have e2 : i = xs.length := by have := List.drop_eq_nil_iff.mp e; omega
      subst e2
      exact done acc M h
    | cons x l ih =>
      intro i acc M e hi ha h
      have hx : xs[i]? = some x := by
        have := congrArg List.head? e
        rw [List.head?_drop] at this
        exact this
      have hl' : xs.drop (i + 1) = l := by
        have := congrArg List.tail e
        rw [List.tail_drop] at this
        exact this
      have hlt : i < xs.length := (List.getElem?_eq_some_iff.mp hx).1
      exact step i x acc M _ hx h (fun M' h' => ih (i + 1) acc M' hl' hlt (by omega) h') fun d M' h' => ⟨by omega, ih (i + 1) (acc ++ [d]) M' hl' hlt (by simp; omega) h'⟩
  exact go xs 0 [] M rfl (Nat.zero_le _) (Nat.le_refl _) h0
/-! an item by its place -/
theorem atD_nat {ds : List D} {i : Nat} {d : D} (h : ds[i]? = some d) : atD ds (i : Int) = some d := by
  unfold atD
  rw [if_pos (by omega)]
  exact h
theorem atD_lt {ds : List D} {i : Int} (h0 : 0 ≤ i) (h : i < ds.length) : ∃ d, atD ds i = some d ∧ d ∈ ds := by
  obtain ⟨n, rfl⟩ := Int.eq_ofNat_of_zero_le h0
  have hn : n < ds.length := by omega
  exact ⟨ds[n], atD_nat (by simp [hn]), List.getElem_mem hn⟩
theorem len_sl {α : Type} {l : List α} {n : Nat} (h : l.length ≤ n) (hn : n ≤ 16000000 := by decide) : l.length ≤ PySem.sizeLine := Nat.le_trans h (Nat.le_trans hn (by show 16000000 ≤ 2 ^ 24; decide))
theorem sl_small (n : Nat) (hn : n ≤ 16000000 := by omega) : n ≤ PySem.sizeLine := Nat.le_trans hn (by show 16000000 ≤ 2 ^ 24; decide)
theorem mul2 {i : Int} : MulOk i 2 := .inr ⟨by decide, by decide⟩
theorem mulK {i j : Int} (h : -(2 ^ 64) < j ∧ j < 2 ^ 64) : MulOk i j := .inr h
theorem sm62 {i : Int} (h0 : -1000000 ≤ i) (h : i ≤ 1000000) : small62 i := ⟨by omega, by omega⟩
end L3
end
section
set_option autoImplicit false
set_option linter.all false
set_option maxRecDepth 100000
/-! L3: what is promised of the tables' text: data that can be told -/
namespace L3
open PySem (Addr Str PyData NestedKey)
open PySem.W (alike alikeAll)

/-! ### small values -/
def Sm (n : Nat) (d : D) : Prop := d.sm = true ∧ d.bk ≤ n ∧ d.dp ≤ 8
theorem Sm.mono {n m : Nat} {d : D} (h : Sm n d) (hm : n ≤ m) : Sm m d := ⟨h.1, Nat.le_trans h.2.1 hm, h.2.2⟩
theorem smt {ds : List D} (h : D.sms ds = true) : (D.tup ds).sm = true := h
theorem smc {d : D} {ds : List D} (h1 : d.sm = true) (h2 : D.sms ds = true) : D.sms (d :: ds) = true := band_i h1 h2
theorem smn : D.sms [] = true := rfl
/-! ### keys -/
def KI (d : D) : Prop := ∃ i : Int, d = .int i ∧ i.natAbs ≤ 1000000
def KP (d : D) : Prop := ∃ i j : Int, d = .tup [.int i, .int j] ∧ i.natAbs ≤ 1000000 ∧ j.natAbs ≤ 1000000
/-- a reference: object or promise, its vat, its number -/
def rf (o : Bool) (v n : Int) : D := .tup [.str (if o = true then "object" else "promise"), .int v, .int n]
def KR (d : D) : Prop := ∃ (o : Bool) (v n : Int), d = rf o v n ∧ v.natAbs ≤ 1000000 ∧ n.natAbs ≤ 1000000
theorem int_sm {i : Int} (h : i.natAbs ≤ 1000000) : (D.int i).sm = true := decide_eq_true (Nat.lt_of_le_of_lt h (by decide))
theorem KI.sm {d : D} (h : KI d) : d.sm = true ∧ d.ex = true ∧ d.bk ≤ 12 ∧ d.dp ≤ 1 ∧ d.hk1 = true := by
  obtain ⟨i, rfl, h⟩ := h
  exact ⟨int_sm h, rfl, Nat.zero_le _, Nat.zero_le _, rfl⟩
theorem KP.sm {d : D} (h : KP d) : d.sm = true ∧ d.ex = true ∧ d.bk ≤ 12 ∧ d.dp ≤ 1 ∧ d.hkT = true := by
  obtain ⟨i, j, rfl, h1, h2⟩ := h
  have s : D.sms [.int i, .int j] = true := band_i (int_sm h1) (band_i (int_sm h2) rfl)
  exact ⟨s, rfl, by show 2 ≤ 12; decide, Nat.le_refl _, sm_hkT s (Nat.le_of_ble_eq_true rfl)⟩
theorem rf_sm {o : Bool} {v n : Int} (h1 : v.natAbs ≤ 1000000) (h2 : n.natAbs ≤ 1000000) : (rf o v n).sm = true := band_i (by cases o <;> rfl) (band_i (int_sm h1) (band_i (int_sm h2) rfl))
theorem KR.sm {d : D} (h : KR d) : d.sm = true ∧ d.ex = true ∧ d.bk ≤ 12 ∧ d.dp ≤ 1 ∧ d.hkT = true := by
  obtain ⟨o, v, n, rfl, h1, h2⟩ := h
  exact ⟨rf_sm h1 h2, by cases o <;> rfl, by cases o <;> exact Nat.le_of_ble_eq_true rfl, by cases o <;> exact Nat.le_refl _, sm_hkT (rf_sm h1 h2) (by cases o <;> exact Nat.le_of_ble_eq_true rfl)⟩
/-- a kind of keys: all comparable -/
structure KOk (K : D → Prop) : Prop where
  sm : ∀ d, K d → d.sm = true ∧ d.ex = true ∧ d.bk ≤ 12 ∧ d.dp ≤ 1
  al : ∀ d e, K d → K e → alike d.py e.py = true
  nn : ∀ d, K d → d ≠ .non
theorem KI.ok : KOk KI := ⟨fun d h => ⟨h.sm.1, h.sm.2.1, h.sm.2.2.1, h.sm.2.2.2.1⟩, fun d e ⟨i, h, _⟩ ⟨j, h', _⟩ => by subst h; subst h'; rfl, fun d ⟨i, h, _⟩ => by subst h; exact nofun⟩
theorem KP.ok : KOk KP := ⟨fun d h => ⟨h.sm.1, h.sm.2.1, h.sm.2.2.1, h.sm.2.2.2.1⟩, fun d e ⟨i, j, h, _⟩ ⟨i', j', h', _⟩ => by subst h; subst h'; rfl, fun d ⟨i, j, h, _⟩ => by subst h; exact nofun⟩
theorem KR.ok : KOk KR := ⟨fun d h => ⟨h.sm.1, h.sm.2.1, h.sm.2.2.1, h.sm.2.2.2.1⟩, fun d e ⟨o, v, n, h, _⟩ ⟨o', v', n', h', _⟩ => by subst h; subst h'; rfl, fun d ⟨o, v, n, h, _⟩ => by subst h; exact nofun⟩
mutual
theorem alike_self : ∀ {d : D}, d.sm = true → alike d.py d.py = true
  | .non, _ => rfl
  | .bl _, _ => rfl
  | .int _, _ => rfl
  | .str _, _ => rfl
  | .tup ds, h => alikes_self (ds := ds) h
  | .kt _, h => nomatch h
  | .ref _, h => nomatch h
  | .exn _ _, h => nomatch h
  | .kl _, h => nomatch h
theorem alikes_self : ∀ {ds : List D}, D.sms ds = true → alikeAll (D.pys ds) (D.pys ds) = true
  | [], _ => rfl
  | d :: ds, h => band_i (alike_self (band_e (a := d.sm) h).1) (alikes_self (band_e (a := d.sm) h).2)
end
theorem str_beq {x y : Str} (h : (x == y) = true) : x = y := by simpa using h
mutual
theorem eqv_py : ∀ {x y : D}, x.ex = true → y.ex = true → PyData.eqv x.py y.py = true → x = y
  | .int i, .int j, _, _, e => by rw [eq_of_beq (show (i == j) = true from e)]
  | .str i, .str j, _, _, e => by rw [str_beq (show (i == j) = true from e)]
  | .int i, .str j, _, _, e => nomatch e
  | .str i, .int j, _, _, e => nomatch e
  | .int i, .tup j, _, _, e => nomatch e
  | .tup i, .int j, _, _, e => nomatch e
  | .str i, .tup j, _, _, e => nomatch e
  | .tup i, .str j, _, _, e => nomatch e
  | .tup ds, .tup es, h1, h2, e => by rw [eqvs_py (ds := ds) (es := es) h1 h2 e]
  | .non, _, h, _, _ => nomatch h
  | .bl _, _, h, _, _ => nomatch h
  | .kt _, _, h, _, _ => nomatch h
  | .ref _, _, h, _, _ => nomatch h
  | .exn _ _, _, h, _, _ => nomatch h
  | .kl _, _, h, _, _ => nomatch h
  | _, .non, _, h, _ => nomatch h
  | _, .bl _, _, h, _ => nomatch h
  | _, .kt _, _, h, _ => nomatch h
  | _, .ref _, _, h, _ => nomatch h
  | _, .exn _ _, _, h, _ => nomatch h
  | _, .kl _, _, h, _ => nomatch h
theorem eqvs_py : ∀ {ds es : List D}, D.exs ds = true → D.exs es = true → PyData.eqvAll (D.pys ds) (D.pys es) = true → ds = es
  | [], [], _, _, _ => rfl
  | [], _ :: _, _, _, e => nomatch e
  | _ :: _, [], _, _, e => nomatch e
  | d :: ds, c :: es, h1, h2, e => by
    have e' := band_e (a := PyData.eqv d.py c.py) e
    rw [eqv_py (band_e (a := d.ex) h1).1 (band_e (a := c.ex) h2).1 e'.1, eqvs_py (band_e (a := d.ex) h1).2 (band_e (a := c.ex) h2).2 e'.2]
end
/-! ### dicts that can be told -/
structure DOk (K V : D → Prop) (n : Nat) (kvs : List (D × D)) : Prop where
  all : Pairs K V kvs
  nd : kvs.Pairwise fun p q => p.1 ≠ q.1
  len : kvs.length ≤ n
section
variable {K V V' : D → Prop} {n m : Nat} {kvs : List (D × D)} {k v : D}
theorem DOk.nil : DOk K V n [] := ⟨fun _ h => absurd h List.not_mem_nil, .nil, Nat.zero_le _⟩
theorem DOk.mono (h : DOk K V n kvs) (hv : ∀ d, V d → V' d) (hn : n ≤ m) : DOk K V' m kvs := ⟨fun p hp => ⟨(h.all p hp).1, hv _ (h.all p hp).2⟩, h.nd, Nat.le_trans h.len hn⟩
theorem DOk.get (h : DOk K V n kvs) (e : dget kvs k = some v) : V v := h.all.get e
theorem DOk.del (h : DOk K V n kvs) : DOk K V n (ddel kvs k) := ⟨h.all.del, h.nd.sublist List.filter_sublist, Nat.le_trans ddel_len h.len⟩
theorem DOk.put (ok : KOk K) (h : DOk K V n kvs) (hk : K k) (hv : V v) : DOk K V (n + 1) (dput kvs k v) := by
  refine ⟨h.all.put hk hv, ?_, Nat.le_trans dput_len (Nat.succ_le_succ h.len)⟩
  unfold dput
  split
  · rw [List.pairwise_map]
    refine h.nd.imp fun {p q} e => ?_
    intro z
    refine e ?_
    split at z <;> split at z <;> exact z
  · rename_i hn
    rw [List.pairwise_append]
    refine ⟨h.nd, List.pairwise_singleton _ _, fun p hp q hq e => ?_⟩
    rw [List.mem_singleton] at hq
    subst hq
    refine hn ?_
    unfold dhas
    rw [List.any_eq_true]
    exact ⟨p, hp, by rw [e]; exact eqv_refl _⟩
theorem DOk.set (ok : KOk K) (h : DOk K V n kvs) (hk : K k) (hv : V v) (hh : dhas kvs k = true) : DOk K V n (dput kvs k v) := by
  refine ⟨(h.put ok hk hv).all, (h.put ok hk hv).nd, ?_⟩
  unfold dput
  rw [if_pos hh, List.length_map]
  exact h.len
theorem DOk.pairs (ok : KOk K) (h : DOk K (Sm m) n kvs) : PairsOk kvs := by
  have dp : ∀ {d : D}, d.sm = true → d.dp ≤ 20 → d.py.depth ≤ 20 := fun h h2 => by rw [dp_py h]; exact h2
  refine ⟨fun p hp => ?_, fun p hp q hq => ok.al _ _ (h.all p hp).1 (h.all q hq).1, h.nd.imp_of_mem fun {p q} hp hq e => ?_⟩
  · obtain ⟨hk, hv⟩ := h.all p hp
    obtain ⟨k1, k2, k3, k4⟩ := ok.sm _ hk
    exact ⟨sm_pure k1, dp k1 (by omega), ok.nn _ hk, sm_pure hv.1, dp hv.1 (by have := hv.2.2; omega), alike_self hv.1⟩
  · have a := ok.sm _ (h.all p hp).1
    have b := ok.sm _ (h.all q hq).1
    refine ⟨?_, ?_⟩
    · rw [Bool.eq_false_iff]; exact fun z => e (eqv_py a.2.1 b.2.1 z)
    · rw [Bool.eq_false_iff]; exact fun z => e (eqv_py b.2.1 a.2.1 z).symm
end
/-! ### data as text -/
theorem pys_eq (ds : List D) : D.pys ds = ds.map D.py := by
  induction ds with
  | nil => rfl
  | cons d ds ih => rw [D.pys, List.map_cons, ih]
/-- a list that can be told within so much text -/
def LOk (n : Nat) (ds : List D) : Prop := D.sms ds = true ∧ D.bks ds ≤ n ∧ D.dps ds ≤ 12
theorem LOk.show {n : Nat} {ds : List D} (h : LOk n ds) : (PyData.list (D.pys ds)).showable = true ∧ (PyData.list (D.pys ds)).leavesShort 64 = true ∧ (PyData.list (D.pys ds)).bulk ≤ n ∧ (PyData.list (D.pys ds)).depth ≤ 13 := by
  obtain ⟨a, b⟩ := sms_show h.1
  refine ⟨a, b, ?_, ?_⟩
  · show PyData.bulkAll (D.pys ds) ≤ n
    rw [bks_py h.1]; exact h.2.1
  · show PyData.depthAll (D.pys ds) + 1 ≤ 13
    rw [dps_py h.1]; have := h.2.2; omega
theorem LOk.of {n m : Nat} {ds : List D} (h : ∀ d ∈ ds, Sm m d) (hl : ds.length ≤ n) : LOk ((m + 1) * n) ds :=
  ⟨sms_all.mpr fun d hd => (h d hd).1, Nat.le_trans (bks_le fun d hd => (h d hd).2.1) (Nat.mul_le_mul_left _ hl), dps_le fun d hd => Nat.le_trans (h d hd).2.2 (by decide)⟩
theorem pair_sm {K : D → Prop} {m : Nat} {p : D × D} (ok : KOk K) (hk : K p.1) (hv : Sm m p.2) : (pairD p).sm = true ∧ (pairD p).bk ≤ m + 14 ∧ (pairD p).dp ≤ 9 := by
  obtain ⟨k1, k2, k3, k4⟩ := ok.sm _ hk
  refine ⟨band_i k1 (band_i hv.1 rfl), ?_, ?_⟩
  · show p.1.bk + 1 + (p.2.bk + 1 + 0) ≤ m + 14
    have := hv.2.1; omega
  · show max p.1.dp (max p.2.dp 0) + 1 ≤ 9
    have := hv.2.2; omega
theorem DOk.list {K : D → Prop} {n m : Nat} {kvs : List (D × D)} (ok : KOk K) (h : DOk K (Sm m) n kvs) : LOk ((m + 15) * n) (kvs.map pairD) := by
  have a : ∀ d ∈ kvs.map pairD, d.sm = true ∧ d.bk ≤ m + 14 ∧ d.dp ≤ 9 := fun d hd => by
    obtain ⟨p, hp, rfl⟩ := List.mem_map.mp hd
    exact pair_sm ok (h.all p hp).1 (h.all p hp).2
  refine ⟨sms_all.mpr fun d hd => (a d hd).1, ?_, dps_le fun d hd => Nat.le_trans (a d hd).2.2 (by decide)⟩
  refine Nat.le_trans (bks_le fun d hd => (a d hd).2.1) (Nat.mul_le_mul_left _ ?_)
  rw [List.length_map]; exact h.len
theorem DOk.sorted {K V : D → Prop} {n : Nat} {kvs : List (D × D)} (h : Pairs K V kvs) (hl : kvs.length ≤ n) : Pairs K V (srtP kvs) ∧ (srtP kvs).length ≤ n := by
  unfold srtP
  exact ⟨fun p hp => h p (List.mem_mergeSort.mp hp), by rw [List.length_mergeSort]; exact hl⟩
theorem DOk.slist {K : D → Prop} {n m : Nat} {kvs : List (D × D)} (ok : KOk K) (h : DOk K (Sm m) n kvs) : LOk ((m + 15) * n) ((srtP kvs).map pairD) := by
  obtain ⟨p1, p2⟩ := DOk.sorted h.all h.len
  have a : ∀ d ∈ (srtP kvs).map pairD, d.sm = true ∧ d.bk ≤ m + 14 ∧ d.dp ≤ 9 := fun d hd => by
    obtain ⟨p, hp, rfl⟩ := List.mem_map.mp hd
    exact pair_sm ok (p1 p hp).1 (p1 p hp).2
  refine ⟨sms_all.mpr fun d hd => (a d hd).1, ?_, dps_le fun d hd => Nat.le_trans (a d hd).2.2 (by decide)⟩
  refine Nat.le_trans (bks_le fun d hd => (a d hd).2.1) (Nat.mul_le_mul_left _ ?_)
  rw [List.length_map]; exact p2

/-! ### the tables as text -/
def Tb.ds1 (S : Tb) : List (List D) := [S.objects, S.promises, S.answers, S.lent, S.known, S.hoped, S.places, S.arrived, S.pins].map fun kvs => (srtP kvs).map pairD
def Tb.ls1 (S : Tb) : List (List D) := [S.queue, S.parked, S.early, S.waiting, S.listeners, S.transfers, S.out, S.log, S.order]
def pl (l : List D) : PyData := .list (D.pys l)
def toldPy (S : Tb) : PyData := .list (.list [.int S.made, .int S.sent, .int S.asked, pl (S.held.map pairD)] :: (S.ds1 ++ S.ls1).map pl)
/-- n pairs at most in each dict, small values; so much text in each row -/
structure TOk (n m : Nat) (S : Tb) : Prop where
  made : S.made.natAbs ≤ 1000000
  sent : S.sent.natAbs ≤ 1000000
  asked : S.asked.natAbs ≤ 1000000
  objects : DOk KI (Sm m) n S.objects
  promises : DOk KI (Sm m) n S.promises
  answers : DOk KP (Sm m) n S.answers
  lent : DOk KR (Sm m) n S.lent
  held : DOk KR (Sm m) n S.held
  known : DOk KR (Sm m) n S.known
  hoped : DOk KR (Sm m) n S.hoped
  places : DOk KR (Sm m) n S.places
  arrived : DOk KP (Sm m) n S.arrived
  pins : DOk KR (Sm m) n S.pins
  rows : ∀ l ∈ S.ls1, LOk ((m + 15) * n) l
theorem all_show {n : Nat} : ∀ {ls : List (List D)}, (∀ l ∈ ls, LOk n l) → PyData.showableAll (ls.map pl) = true ∧ PyData.leavesShortAll 64 (ls.map pl) = true ∧ PyData.bulkAll (ls.map pl) ≤ (n + 1) * ls.length ∧ PyData.depthAll (ls.map pl) ≤ 13
  | [], _ => ⟨rfl, rfl, Nat.zero_le _, Nat.zero_le _⟩
  | l :: ls, h => by
    obtain ⟨a1, a2, a3, a4⟩ := (h l List.mem_cons_self).show
    obtain ⟨b1, b2, b3, b4⟩ := all_show fun x hx => h x (List.mem_cons_of_mem _ hx)
    refine ⟨band_i a1 b1, band_i a2 b2, ?_, ?_⟩
    · show (pl l).bulk + 1 + PyData.bulkAll (ls.map pl) ≤ (n + 1) * (ls.length + 1)
      rw [Nat.mul_succ]
      have : (pl l).bulk ≤ n := a3
      omega
    · show max (pl l).depth (PyData.depthAll (ls.map pl)) ≤ 13
      have : (pl l).depth ≤ 13 := a4
      omega
theorem TOk.rows2 {n m : Nat} {S : Tb} (h : TOk n m S) : ∀ l ∈ S.ds1 ++ S.ls1, LOk ((m + 15) * n) l := by
  intro l hl
  rcases List.mem_append.mp hl with hl | hl
  · simp only [Tb.ds1, List.map_cons, List.map_nil, List.mem_cons, List.not_mem_nil, or_false] at hl
    rcases hl with rfl | rfl | rfl | rfl | rfl | rfl | rfl | rfl | rfl
    · exact h.objects.slist KI.ok
    · exact h.promises.slist KI.ok
    · exact h.answers.slist KP.ok
    · exact h.lent.slist KR.ok
    · exact h.known.slist KR.ok
    · exact h.hoped.slist KR.ok
    · exact h.places.slist KR.ok
    · exact h.arrived.slist KP.ok
    · exact h.pins.slist KR.ok
  · exact h.rows l hl
theorem told_ok {n m : Nat} {S : Tb} (h : TOk n m S) (hn : (m + 15) * n ≤ 12500) : Told (toldPy S) := by
  obtain ⟨b1, b2, b3, b4⟩ := all_show h.rows2
  obtain ⟨a1, a2, a3, a4⟩ := (h.held.list KR.ok).show
  have i : ∀ {i : Int}, i.natAbs ≤ 1000000 → i.natAbs < 2 ^ 60 := fun h => by
    have : (1000000 : Nat) < 2 ^ 60 := by decide
    omega
  obtain ⟨c1, c2⟩ := show_int (i h.made)
  obtain ⟨d1, d2⟩ := show_int (i h.sent)
  obtain ⟨e1, e2⟩ := show_int (i h.asked)
  have hb : (toldPy S).bulk ≤ 250000 := by
    show (0 + 1 + (0 + 1 + (0 + 1 + ((pl (S.held.map pairD)).bulk + 1 + 0)))) + 1 + PyData.bulkAll ((S.ds1 ++ S.ls1).map pl) ≤ _
    have l : (S.ds1 ++ S.ls1).length = 18 := rfl
    have : (pl (S.held.map pairD)).bulk ≤ (m + 15) * n := a3
    rw [l] at b3
    omega
  refine ⟨?_, ?_, ?_⟩
  · exact band_i (band_i c1 (band_i d1 (band_i e1 (band_i a1 rfl)))) b1
  · refine Nat.le_trans (PyData.shown_le_bulk 64 (by decide) _ (band_i (band_i c2 (band_i d2 (band_i e2 (band_i a2 rfl)))) b2)) ?_
    show (64 + 2) * _ + 64 ≤ 2 ^ 24
    omega
  · show max (max 0 (max 0 (max 0 (max (pl (S.held.map pairD)).depth 0))) + 1) (PyData.depthAll ((S.ds1 ++ S.ls1).map pl)) + 1 ≤ 40
    have : (pl (S.held.map pairD)).depth ≤ 13 := a4
    omega
end L3
end
section
set_option autoImplicit false
set_option linter.all false
set_option maxRecDepth 100000
/-! L3: promises of the defs that draw -/
namespace L3
open PySem (Addr Str PyData NestedKey)

/-! ### the draws: a list of the digits and a place -/
def BX (M : Mp) (b d : Addr) : Prop := ∃ (xs : List Int) (at_ : Nat), M b = some (.lst [.ref d, .int at_]) ∧ M d = some (.lst (xs.map .int)) ∧ b ≠ d
structure SB (M : Mp) (b d s : Addr) (ls : Fl → Addr) (S : Tb) : Prop where
  bx : BX M b d
  ss : SS M s ls S
  nb : ¬ OS s ls b
  nd : ¬ OS s ls d
section
variable {M M1 : Mp} {b d s p : Addr} {ls : Fl → Addr} {S : Tb} {o : MO}
theorem BX.has (h : BX M b d) : M b ≠ none ∧ M d ≠ none := by
  obtain ⟨xs, i, h1, h2, _⟩ := h
  exact ⟨by rw [h1]; exact nofun, by rw [h2]; exact nofun⟩
theorem BX.keep (h : BX M b d) (h1 : M1 b = M b) (h2 : M1 d = M d) : BX M1 b d := by
  obtain ⟨xs, i, g1, g2, g3⟩ := h
  exact ⟨xs, i, by rw [h1]; exact g1, by rw [h2]; exact g2, g3⟩
theorem BX.fr {O : Addr → Prop} (h : BX M b d) (f : Fr O M M1) (h1 : ¬ O b) (h2 : ¬ O d) : BX M1 b d := h.keep (f b h1 h.has.1) (f d h2 h.has.2)
theorem BX.no (h : BX M b d) (f : Fr No M M1) : BX M1 b d := h.fr f (fun w => w) fun w => w
theorem BX.new (h : BX M b d) (hp : M p = none) : BX (mset M p o) b d := h.no (Fr.new hp)
theorem BX.ne (h : BX M b d) : b ≠ d := by obtain ⟨_, _, _, _, g⟩ := h; exact g
theorem SB.at_ (h : SB M b d s ls S) (x : BX M1 b d) (f : Fr (At b) M M1) : SB M1 b d s ls S := ⟨x, h.ss.fr f fun a e o => h.nb (by rw [← show a = b from e]; exact o), h.nb, h.nd⟩
theorem SB.no (h : SB M b d s ls S) (f : Fr No M M1) : SB M1 b d s ls S := ⟨h.bx.no f, h.ss.fr f fun a e _ => e, h.nb, h.nd⟩
theorem SB.new (h : SB M b d s ls S) (hp : M p = none) : SB (mset M p o) b d s ls S := h.no (Fr.new hp)
end
/-! ### values -/
def Txt1 (x : Str) : Prop := (D.str x).sm = true ∧ x.cps.size ≤ 24
/-- an atom; R: of its references -/
def Atom (R : D → Prop) (d : D) : Prop := (∃ (o : Bool) (v n : Int), d = rf o v n ∧ v.natAbs ≤ 1000000 ∧ n.natAbs ≤ 1000000 ∧ R d) ∨
  ∃ (x : Str) (ds : List D), d = .tup (.str x :: ds) ∧ x ≠ "object" ∧ x ≠ "promise" ∧ x ≠ "list" ∧ d.sm = true ∧ d.bk ≤ 30 ∧ d.dp ≤ 1
def Val (R : D → Prop) (d : D) : Prop := Atom R d ∨ ∃ as : List D, d = .tup [.str "list", .tup as] ∧ as.length ≤ 3 ∧ ∀ a ∈ as, Atom R a
def Stl (R : D → Prop) (d : D) : Prop := (∃ v, d = .tup [.str "fulfilled", v] ∧ Val R v) ∨ ∃ x, d = .tup [.str "broken", .str x] ∧ Txt1 x
def Rec (R : D → Prop) (V K : Nat) (d : D) : Prop := d = .tup [.str "pending"] ∨ Stl R d ∨
  ∃ (v q : Int) (w : W), d = .tup [.str "forwarded", .int v, .int q, pr w] ∧ v.natAbs ≤ 1000000 ∧ q.natAbs ≤ 1000000 ∧ WOk V K w
def Wt (V K : Nat) (d : D) : Prop := ∃ w, d = pr w ∧ WOk V K w
/-- an object: its class, two values -/
def Thing (R : D → Prop) (d : D) : Prop := ∃ x v v', d = .tup [.str x, .tup [v, v']] ∧ Txt1 x ∧ Val R v ∧ Val R v'
def Ans (R : D → Prop) (V K : Nat) (d : D) : Prop := ∃ (i j : Int) (r : D) (w : W), d = .tup [.tup [.int i, .int j], r, pr w] ∧ i.natAbs ≤ 1000000 ∧ j.natAbs ≤ 1000000 ∧ Rec R V K r ∧ WOk V K w
section
variable {R R' : D → Prop} {V K V' K' : Nat} {d : D}
theorem Atom.mono (h : Atom R d) (s : ∀ r, R r → R' r) : Atom R' d := by
  rcases h with ⟨o, v, n, e, h1, h2, h3⟩ | h
  · exact .inl ⟨o, v, n, e, h1, h2, s _ h3⟩
  · exact .inr h
theorem Val.mono (h : Val R d) (s : ∀ r, R r → R' r) : Val R' d := by
  rcases h with h | ⟨as, e, hl, h⟩
  · exact .inl (h.mono s)
  · exact .inr ⟨as, e, hl, fun a ha => (h a ha).mono s⟩
theorem Stl.mono (h : Stl R d) (s : ∀ r, R r → R' r) : Stl R' d := by
  rcases h with ⟨v, e, h⟩ | h
  · exact .inl ⟨v, e, h.mono s⟩
  · exact .inr h
theorem Rec.mono (h : Rec R V K d) (s : ∀ r, R r → R' r) (hV : V ≤ V') (hK : K ≤ K') : Rec R' V' K' d := by
  rcases h with h | h | ⟨v, q, w, e, h1, h2, h3⟩
  · exact .inl h
  · exact .inr (.inl (h.mono s))
  · exact .inr (.inr ⟨v, q, w, e, h1, h2, h3.mono hV hK⟩)
theorem Wt.mono (h : Wt V K d) (hV : V ≤ V') (hK : K ≤ K') : Wt V' K' d := let ⟨w, e, h⟩ := h; ⟨w, e, h.mono hV hK⟩
theorem Atom.sm (h : Atom R d) : d.sm = true ∧ d.bk ≤ 30 ∧ d.dp ≤ 1 := by
  rcases h with ⟨o, v, n, rfl, h1, h2, _⟩ | ⟨x, ds, _, _, _, _, h⟩
  · obtain ⟨a, _, b, c, _⟩ := KR.sm ⟨o, v, n, rfl, h1, h2⟩
    exact ⟨a, by omega, c⟩
  · exact h
theorem Val.sm (h : Val R d) : d.sm = true ∧ d.bk ≤ 99 ∧ d.dp ≤ 3 := by
  rcases h with h | ⟨as, rfl, hl, h⟩
  · obtain ⟨a, b, c⟩ := h.sm; exact ⟨a, by omega, by omega⟩
  · refine ⟨smt (smc rfl (smc (smt (sms_all.mpr fun a ha => (h a ha).sm.1)) smn)), ?_, ?_⟩
    · have h1 := bks_le (n := 30) fun a ha => (h a ha).sm.2.1
      have h2 : (30 + 1) * as.length ≤ 31 * 3 := Nat.mul_le_mul_left _ hl
      show 4 + 1 + (D.bks as + 1 + 0) ≤ 99
      omega
    · have := dps_le (n := 1) fun a ha => (h a ha).sm.2.2
      show max 0 (max (D.dps as + 1) 0) + 1 ≤ 3
      omega
theorem Txt1.bk {x : Str} (h : Txt1 x) : (D.str x).bk ≤ 24 := h.2
theorem Stl.sm (h : Stl R d) : d.sm = true ∧ d.bk ≤ 110 ∧ d.dp ≤ 4 := by
  rcases h with ⟨v, rfl, h⟩ | ⟨x, rfl, h⟩
  · obtain ⟨a, b, c⟩ := h.sm
    refine ⟨smt (smc rfl (smc a smn)), ?_, ?_⟩
    · show 9 + 1 + (v.bk + 1 + 0) ≤ 110; omega
    · show max 0 (max v.dp 0) + 1 ≤ 4; omega
  · refine ⟨smt (smc rfl (smc h.1 smn)), ?_, Nat.le_of_ble_eq_true rfl⟩
    show 6 + 1 + (x.cps.size + 1 + 0) ≤ 110
    have := h.2; omega
theorem int_sm2 {i : Int} (h : i.natAbs ≤ 1000000) : (D.int i).sm = true := int_sm h
theorem Wt.sm (h : Wt V K d) (hV : V ≤ 2 ^ 20) (hK : K ≤ 39) : d.sm = true ∧ d.bk ≤ 2 ∧ d.dp ≤ 1 := by
  obtain ⟨w, rfl, h⟩ := h
  exact ⟨pr_sm h hV hK, Nat.le_refl _, Nat.le_refl _⟩
theorem Rec.sm (h : Rec R V K d) (hV : V ≤ 2 ^ 20) (hK : K ≤ 39) : d.sm = true ∧ d.bk ≤ 110 ∧ d.dp ≤ 4 := by
  rcases h with rfl | h | ⟨v, q, w, rfl, h1, h2, h3⟩
  · exact ⟨rfl, Nat.le_of_ble_eq_true rfl, Nat.le_of_ble_eq_true rfl⟩
  · exact h.sm
  · exact ⟨smt (smc rfl (smc (int_sm h1) (smc (int_sm h2) (smc (pr_sm h3 hV hK) smn)))), by show 9 + 1 + (0 + 1 + (0 + 1 + (2 + 1 + 0))) ≤ 110; decide, Nat.le_of_ble_eq_true rfl⟩
theorem Thing.sm (h : Thing R d) : d.sm = true ∧ d.bk ≤ 230 ∧ d.dp ≤ 5 := by
  obtain ⟨x, v, v', rfl, h0, h1, h2⟩ := h
  obtain ⟨a, b, c⟩ := h1.sm
  obtain ⟨a', b', c'⟩ := h2.sm
  refine ⟨smt (smc h0.1 (smc (smt (smc a (smc a' smn))) smn)), ?_, ?_⟩
  · show x.cps.size + 1 + (v.bk + 1 + (v'.bk + 1 + 0) + 1 + 0) ≤ 230
    have := h0.2; omega
  · show max 0 (max (max v.dp (max v'.dp 0) + 1) 0) + 1 ≤ 5
    omega
theorem Ans.sm (h : Ans R V K d) (hV : V ≤ 2 ^ 20) (hK : K ≤ 39) : d.sm = true ∧ d.bk ≤ 120 ∧ d.dp ≤ 5 := by
  obtain ⟨i, j, r, w, rfl, h1, h2, h3, h4⟩ := h
  obtain ⟨a, b, c⟩ := h3.sm hV hK
  refine ⟨smt (smc (smt (smc (int_sm h1) (smc (int_sm h2) smn))) (smc a (smc (pr_sm h4 hV hK) smn))), ?_, ?_⟩
  · show (0 + 1 + (0 + 1 + 0)) + 1 + (r.bk + 1 + (2 + 1 + 0)) ≤ 120; omega
  · show max (max 0 (max 0 0) + 1) (max r.dp (max (max 0 (max 0 0) + 1) 0)) + 1 ≤ 5; omega
end
/-- a reference as the draws make them: an own one, or one of the twelve far ones -/
def Rg (vat : Int) (r : D) : Prop := (∃ (o : Bool) (n : Int), r = rf o vat n ∧ 101 ≤ n ∧ n ≤ 300) ∨ ∃ (o : Bool) (v n : Int), r = rf o v n ∧ v ≠ vat ∧ 1 ≤ v ∧ v ≤ 4 ∧ 1 ≤ n ∧ n ≤ 2
/-- the vat and the top are as the draws make them -/
structure Gn (S : Tb) : Prop where
  v0 : 1 ≤ S.vat
  v1 : S.vat ≤ 4
  t0 : 1 ≤ S.top
  t1 : S.top ≤ 100
/-- the three other vats -/
def oth (v : Int) : List Int := [1, 2, 3, 4].filter fun k => decide (k ≠ v)
theorem oth_len {v : Int} (h0 : 1 ≤ v) (h1 : v ≤ 4) : (oth v).length = 3 := by
  have : v = 1 ∨ v = 2 ∨ v = 3 ∨ v = 4 := by omega
  rcases this with rfl | rfl | rfl | rfl <;> rfl
theorem oth_mem {v k : Int} (h : k ∈ oth v) : k ≠ v ∧ 1 ≤ k ∧ k ≤ 4 := by
  obtain ⟨h1, h2⟩ := List.mem_filter.mp h
  refine ⟨of_decide_eq_true h2, ?_⟩
  simp only [List.mem_cons, List.not_mem_nil, or_false] at h1
  omega
/-- the far references of the others -/
def farW (o : Bool) (os : List Int) : List D := os.flatMap fun v => [rf o v 1, rf o v 2]
def farD (os : List Int) : List D := farW true os ++ farW false os
/-- new tables -/
def T0 (v : Int) : Tb := { vat := v, prog := .tup [], top := 0, made := 0, sent := 0, asked := 0, objects := [], promises := [], answers := [], lent := [], held := [], known := [], hoped := [], places := [], arrived := [], queue := [], parked := [], early := [], waiting := [], listeners := [], pins := [], transfers := [], out := [], log := [], order := [] }

/-! ### the promises -/
def sp__law_draw : L3.Spec := fun xs M Q _ => ∃ (b d : Addr) (m : Int), xs = [.ref b, .int m] ∧ 0 < m ∧ BX M b d ∧ ∀ r M', 0 ≤ r → r < m → BX M' b d → Fr (At b) M M' → Q (.int r) M'
def sp__law_cell : L3.Spec := fun xs M Q _ => ∃ (ns : List Int) (k : Nat), xs = [.kl (ns.map .int), .int k] ∧ ∀ n, Q (.int n) M
def sp__law_digits : L3.Spec := fun xs M Q _ => ∃ (ns : List Int) (k : Nat), xs = [.kl (ns.map .int), .int 0, .int k] ∧ k ≤ 100 ∧ ∀ (d : Addr) (ys : List Int) (M' : Mp), M d = none → M' d = some (.lst (ys.map .int)) → Fr No M M' → Q (.ref d) M'
def sp__law_same : L3.Spec := fun xs M Q _ => ∃ d e p, xs = [d, e] ∧ Deep M d p ∧ Deep M e p ∧ Told p ∧ Q (.bl true) M
def sp__law_weight : L3.Spec := fun xs M Q _ => ∃ (b d : Addr), xs = [.ref b] ∧ BX M b d ∧ ∀ w M', WOk 17 4 w → BX M' b d → Fr (At b) M M' → Q (pr w) M'
def spDraw (T : Tb → D → Prop) : L3.Spec := fun xs M Q _ => ∃ (b d s : Addr) (ls : Fl → Addr) (S : Tb), xs = [.ref b, .ref s] ∧ SB M b d s ls S ∧ Gn S ∧ ∀ r M', T S r → BX M' b d → Fr (At b) M M' → Q r M'
def sp__law_atom : L3.Spec := spDraw fun S r => Atom (Rg S.vat) r
def sp__law_value : L3.Spec := spDraw fun S r => Val (Rg S.vat) r
def sp__law_settled : L3.Spec := spDraw fun S r => Stl (Rg S.vat) r
def sp__law_outcome : L3.Spec := spDraw fun S r => Rec (Rg S.vat) 17 4 r
def sp__law_all_far : L3.Spec := fun xs M Q _ => ∃ (p : Addr) (os : List Int), xs = [.ref p] ∧ M p = some (.lst (os.map .int)) ∧ os.length ≤ 3 ∧ ∀ a M', M a = none → M' a = some (.lst (farD os)) → Fr No M M' → Q (.ref a) M'
def sp__law_begin : L3.Spec := fun xs M Q _ => ∃ v : Int, xs = [.int v] ∧ ∀ s ls M', SS M' s ls (T0 v) → Fr No M M' → (∀ a, OS s ls a → M a = none) → Q (.ref s) M'
def sp_Tables___init__ : L3.Spec := fun xs M Q _ => ∃ (p : Addr) (v : Int) (g : D), xs = [.ref p, .int v, g] ∧ M p = some (.ins 0 []) ∧ ∀ lt M', TT M' p lt { T0 v with prog := g } → Fr (At p) M M' → (∀ i, M (lt i) = none) → Q .non M'
theorem ln__law_draw {xs : List D} {M : Mp} {Q X : Post} (h : sp__law_draw xs M Q X) : xs.length = 2 := by obtain ⟨_, _, _, rfl, _⟩ := h; rfl
theorem ln__law_cell {xs : List D} {M : Mp} {Q X : Post} (h : sp__law_cell xs M Q X) : xs.length = 2 := by obtain ⟨_, _, rfl, _⟩ := h; rfl
theorem ln__law_digits {xs : List D} {M : Mp} {Q X : Post} (h : sp__law_digits xs M Q X) : xs.length = 3 := by obtain ⟨_, _, rfl, _⟩ := h; rfl
theorem ln__law_same {xs : List D} {M : Mp} {Q X : Post} (h : sp__law_same xs M Q X) : xs.length = 2 := by obtain ⟨_, _, _, rfl, _⟩ := h; rfl
theorem ln__law_weight {xs : List D} {M : Mp} {Q X : Post} (h : sp__law_weight xs M Q X) : xs.length = 1 := by obtain ⟨_, _, rfl, _⟩ := h; rfl
theorem ln_spDraw {T : Tb → D → Prop} {xs : List D} {M : Mp} {Q X : Post} (h : spDraw T xs M Q X) : xs.length = 2 := by obtain ⟨_, _, _, _, _, rfl, _⟩ := h; rfl
theorem ln__law_atom {xs : List D} {M : Mp} {Q X : Post} (h : sp__law_atom xs M Q X) : xs.length = 2 := ln_spDraw h
theorem ln__law_value {xs : List D} {M : Mp} {Q X : Post} (h : sp__law_value xs M Q X) : xs.length = 2 := ln_spDraw h
theorem ln__law_settled {xs : List D} {M : Mp} {Q X : Post} (h : sp__law_settled xs M Q X) : xs.length = 2 := ln_spDraw h
theorem ln__law_outcome {xs : List D} {M : Mp} {Q X : Post} (h : sp__law_outcome xs M Q X) : xs.length = 2 := ln_spDraw h
theorem ln__law_all_far {xs : List D} {M : Mp} {Q X : Post} (h : sp__law_all_far xs M Q X) : xs.length = 1 := by obtain ⟨_, _, rfl, _⟩ := h; rfl
theorem ln__law_begin {xs : List D} {M : Mp} {Q X : Post} (h : sp__law_begin xs M Q X) : xs.length = 1 := by obtain ⟨_, rfl, _⟩ := h; rfl
theorem ln_Tables___init__ {xs : List D} {M : Mp} {Q X : Post} (h : sp_Tables___init__ xs M Q X) : xs.length = 3 := by obtain ⟨_, _, _, rfl, _⟩ := h; rfl
end L3
namespace L3
open PySem (Addr Str PyData NestedKey)
def sp_law : L3.Spec := fun xs M Q _ => ∃ ns : List Int, xs = [.kl (ns.map .int)] ∧ M = (fun _ => none) ∧ ∀ M', Q (.bl true) M'
theorem ln_law {xs : List D} {M : Mp} {Q X : Post} (h : sp_law xs M Q X) : xs.length = 1 := by obtain ⟨_, rfl, _⟩ := h; rfl
theorem ints_app {xs : List Int} {y : Int} : (xs.map D.int ++ [D.int y]) = (xs ++ [y]).map D.int := by simp
theorem atD_ints {xs : List Int} {i : Nat} (h : i < xs.length) : atD (xs.map .int) (i : Int) = some (.int xs[i]) := atD_nat (by simp [h])
theorem sm0 {i : Int} (h0 : 0 ≤ i) (h : i ≤ 1000000) : small62 i := ⟨by omega, by omega⟩
theorem one2 {α : Type} (a b : α) : [a, b].length ≤ PySem.sizeLine := by show 2 ≤ _; decide
theorem one3 {α : Type} (a b c : α) : [a, b, c].length ≤ PySem.sizeLine := by show 3 ≤ _; decide
theorem one4 {α : Type} (a b c d : α) : [a, b, c, d].length ≤ PySem.sizeLine := by show 4 ≤ _; decide
end L3
namespace L3
open PySem (Addr Str PyData NestedKey)
def othF (v : Int) : D → Option D
  | .int k => if k = v then none else some (.int k)
  | _ => none
theorem oth_map (v : Int) : List.filterMap (othF v) [D.int 1, D.int 2, D.int 3, D.int 4] = (oth v).map D.int := by
  unfold oth
  by_cases h1 : (1 : Int) = v <;> by_cases h2 : (2 : Int) = v <;> by_cases h3 : (3 : Int) = v <;> by_cases h4 : (4 : Int) = v <;> simp [othF, h1, h2, h3, h4]
end L3
namespace L3
theorem farW_len (o : Bool) : ∀ os : List Int, (farW o os).length = 2 * os.length
  | [] => rfl
  | a :: l => by
    have h := farW_len o l
    unfold farW at h ⊢
    rw [List.flatMap_cons, List.length_append, h]
    simp only [List.length_cons, List.length_nil]
    omega
theorem farD_len (os : List Int) : (farD os).length = 4 * os.length := by
  unfold farD
  rw [List.length_append, farW_len, farW_len]; omega
end L3
namespace L3
open PySem (Addr Str PyData NestedKey)
/-! several new objects -/
structure Al (O : Addr → Prop) (M : Mp) (xs : List (Addr × MO)) (M' : Mp) : Prop where
  nd : (xs.map (·.1)).Nodup
  at_ : ∀ q ∈ xs, M' q.1 = some q.2
  fresh : ∀ q ∈ xs, M q.1 = none ∧ ¬ O q.1
  fr : Fr O M M'
  has : ∀ a, O a → M' a ≠ none
section
variable {O : Addr → Prop} {M M' : Mp} {xs : List (Addr × MO)} {p : Addr} {o : MO}
theorem Al.nil (h : ∀ a, O a → M a ≠ none) : Al O M [] M := ⟨.nil, fun _ h => absurd h List.not_mem_nil, fun _ h => absurd h List.not_mem_nil, Fr.refl, h⟩
theorem Al.snoc (h : Al O M xs M') (hp : M' p = none) : Al O M (xs ++ [(p, o)]) (mset M' p o) := by
  have no : ¬ O p := fun w => h.has p w hp
  refine ⟨?_, fun q hq => ?_, fun q hq => ?_, h.fr.trans (Fr.new hp), fun a w => ?_⟩
  · rw [List.map_append, List.nodup_append]
    refine ⟨h.nd, by simp, fun a ha b hb e => ?_⟩
    obtain ⟨q, hq, rfl⟩ := List.mem_map.mp ha
    have : b = p := by simpa using hb
    subst this
    have := h.at_ q hq
    rw [e, hp] at this; cases this
  · rcases List.mem_append.mp hq with hq | hq
    · have := h.at_ q hq
      rw [mset_ne (Fr.ne this hp)]; exact this
    · rw [List.mem_singleton] at hq; subst hq; exact mset_same
  · rcases List.mem_append.mp hq with hq | hq
    · exact h.fresh q hq
    · rw [List.mem_singleton] at hq; subst hq; exact ⟨h.fr.no0 no hp, no⟩
  · have ne : a ≠ p := by rintro rfl; exact no w
    rw [mset_ne ne]; exact h.has a w
theorem Al.wr (h : Al O M xs M') (hp : O p) : Al O M xs (mset M' p o) := by
  refine ⟨h.nd, fun q hq => ?_, h.fresh, h.fr.trans (Fr.set hp), fun a w => ?_⟩
  · have ne : q.1 ≠ p := fun e => (h.fresh q hq).2 (by rw [e]; exact hp)
    rw [mset_ne ne]; exact h.at_ q hq
  · by_cases e : a = p
    · subst e; rw [mset_same]; exact nofun
    · rw [mset_ne e]; exact h.has a w
end
def Fl.ix : Fl → Nat
  | .objects => 0 | .promises => 1 | .answers => 2 | .lent => 3 | .held => 4 | .known => 5 | .hoped => 6 | .places => 7 | .arrived => 8 | .queue => 9 | .parked => 10 | .early => 11 | .waiting => 12 | .listeners => 13 | .pins => 14 | .transfers => 15 | .out => 16 | .log => 17 | .order => 18
def Fl.of : Nat → Fl
  | 0 => .objects | 1 => .promises | 2 => .answers | 3 => .lent | 4 => .held | 5 => .known | 6 => .hoped | 7 => .places | 8 => .arrived | 9 => .queue | 10 => .parked | 11 => .early | 12 => .waiting | 13 => .listeners | 14 => .pins | 15 => .transfers | 16 => .out | 17 => .log | _ => .order
theorem Fl.of_ix (i : Fl) : Fl.of i.ix = i := by cases i <;> rfl
theorem Fl.ix_lt (i : Fl) : i.ix < 19 := by cases i <;> decide
theorem Fl.ix_lt2 {i : Fl} (h : i ≠ .order) : i.ix < 18 := by cases i <;> first | decide | exact absurd rfl h
def box0 : List MO := [.dct [], .dct [], .dcT [], .dcT [], .dcT [], .dcT [], .dcT [], .dcT [], .dcT [], .lst [], .lst [], .lst [], .lst [], .lst [], .dcT [], .lst [], .lst [], .lst [], .lst []]
theorem box0_at (v : Int) (i : Fl) : box0[i.ix]? = some ((T0 v).box i) := by cases i <;> rfl
def lsOf (l : List Addr) (i : Fl) : Addr := l.getD i.ix 0
section
variable {O : Addr → Prop} {M M' M1 : Mp} {l : List Addr} {n : Nat}
theorem al_at (h : Al O M (l.zip box0) M') {i : Fl} (hi : i.ix < l.length) (v : Int) : (lsOf l i, (T0 v).box i) ∈ l.zip box0 := by
  have e : l[i.ix]? = some l[i.ix] := List.getElem?_eq_getElem hi
  have e2 : (l.zip box0)[i.ix]? = some (l[i.ix], (T0 v).box i) := by
    rw [List.getElem?_zip_eq_some]; exact ⟨e, box0_at v i⟩
  have : lsOf l i = l[i.ix] := by unfold lsOf; rw [List.getD_eq_getElem?_getD, e]; rfl
  rw [this]
  exact List.mem_of_getElem? e2
theorem al_inj (h : Al O M (l.zip box0) M') (hl : l.length ≤ 19) {i j : Fl} (hi : i.ix < l.length) (hj : j.ix < l.length) (e : lsOf l i = lsOf l j) : i = j := by
  have z : (l.zip box0).map (·.1) = l := by rw [List.map_fst_zip]; exact hl
  have nd : l.Nodup := by have := h.nd; rwa [z] at this
  have ei : lsOf l i = l[i.ix] := by unfold lsOf; rw [List.getD_eq_getElem?_getD, List.getElem?_eq_getElem hi]; rfl
  have ej : lsOf l j = l[j.ix] := by unfold lsOf; rw [List.getD_eq_getElem?_getD, List.getElem?_eq_getElem hj]; rfl
  rw [ei, ej] at e
  have key : ∀ a b : Nat, (ha : a < l.length) → (hb : b < l.length) → l[a] = l[b] → ¬ a < b := fun a b ha hb e lt => List.pairwise_iff_getElem.mp nd a b ha hb lt e
  have : i.ix = j.ix := by
    have a := key _ _ hi hj e
    have b := key _ _ hj hi e.symm
    omega
  rw [← Fl.of_ix i, ← Fl.of_ix j, this]
end
theorem SS_of {M M' : Mp} {l : List Addr} {s : Addr} {v : Int} (h : Al No M (l.zip box0) M') (hl : l.length = 18) (hs : M' s = none) : SS (mset M' s (.dct ((T0 v).dct (lsOf l)))) s (lsOf l) (T0 v) ∧ Fr No M (mset M' s (.dct ((T0 v).dct (lsOf l)))) ∧ ∀ a, OS s (lsOf l) a → M a = none := by
  have b : ∀ i : Fl, i ≠ .order → i.ix < l.length := fun i n => by rw [hl]; exact Fl.ix_lt2 n
  have ne : ∀ i : Fl, i ≠ .order → lsOf l i ≠ s := fun i n => Fr.ne (h.at_ _ (al_at h (b i n) v)) hs
  refine ⟨⟨fun i j ni nj e => al_inj h (by omega) (b i ni) (b j nj) e, ne, mset_same, fun i n => ?_⟩, h.fr.trans (Fr.new hs), ?_⟩
  · rw [mset_ne (ne i n)]; exact h.at_ _ (al_at h (b i n) v)
  · rintro a (rfl | ⟨i, n, rfl⟩)
    · exact h.fr.no0 (fun w => w) hs
    · exact (h.fresh _ (al_at h (b i n) v)).1
theorem TT_of {M M' : Mp} {l : List Addr} {t : Addr} {v : Int} {g : D} (h : Al (At t) M (l.zip box0) M') (hl : l.length = 19) (ht : M' t = some (.ins 0 (Tb.ins { T0 v with prog := g } (lsOf l)))) : TT M' t (lsOf l) { T0 v with prog := g } ∧ ∀ i, M (lsOf l i) = none := by
  have b : ∀ i : Fl, i.ix < l.length := fun i => by rw [hl]; exact Fl.ix_lt i
  refine ⟨⟨fun i j e => al_inj h (by omega) (b i) (b j) e, fun i => (h.fresh _ (al_at h (b i) v)).2, ht, fun i => ?_⟩, fun i => (h.fresh _ (al_at h (b i) v)).1⟩
  rw [h.at_ _ (al_at h (b i) v)]
  cases i <;> rfl
end L3
namespace L3
open PySem (Addr Str PyData NestedKey)
theorem putFd_new {f : Str} {v : D} : ∀ {fs : List (Str × D)}, f ∉ fs.map (·.1) → putFd f v fs = fs ++ [(f, v)]
  | [], _ => rfl
  | (g, x) :: r, h => by
    have h1 : g ≠ f := fun e => h (by rw [e]; exact List.mem_cons_self)
    rw [putFd, if_neg h1, putFd_new (fun z => h (List.mem_cons_of_mem _ z))]; rfl
section
variable {P : Pr} {M M1 : Mp} {p : Addr} {xs : List (Addr × MO)} {fs : List (Str × D)} {f : Str} {o : MO} {v : D} {km : Mp → Prop} {ks : List Str}
theorem init_set {fs2 : List (Str × D)} (ks : List Str) (A : Al (At p) M xs M1) (e : M1 p = some (.ins 0 fs)) (hf : P.fl 0 f = true) (hk : fs.map (·.1) = ks) (hn : (decide (f ∉ ks) && decide (ks.length < 900)) = true) (h2 : fs ++ [(f, v)] = fs2) (n : ∀ M2, Al (At p) M xs M2 → M2 p = some (.ins 0 fs2) → km M2) : wpSetFld P (.ref p) f v M1 km := by
  subst hk
  subst h2
  rw [Bool.and_eq_true] at hn
  refine (w_setFld e).mpr ⟨⟨hf, by simpa using of_decide_eq_true hn.2⟩, n _ (A.wr rfl) ?_⟩
  rw [mset_same, putFd_new (of_decide_eq_true hn.1)]
theorem init_new {fs2 : Addr → List (Str × D)} (ks : List Str) (A : Al (At p) M xs M1) (e : M1 p = some (.ins 0 fs)) (hf : P.fl 0 f = true) (hk : fs.map (·.1) = ks) (hn : (decide (f ∉ ks) && decide (ks.length < 900)) = true) (h2 : ∀ a, fs ++ [(f, .ref a)] = fs2 a) (n : ∀ a M2, Al (At p) M (xs ++ [(a, o)]) M2 → M2 p = some (.ins 0 (fs2 a)) → km M2) : wpNew M1 o fun v M2 => wpSetFld P (.ref p) f v M2 km := fun a ha =>
  init_set ks (A.snoc ha) (by rw [mset_ne (Fr.ne e ha)]; exact e) hf hk hn (h2 a) fun M2 A2 e2 => n a M2 A2 e2
end
end L3
end
section
set_option autoImplicit false
set_option linter.all false
set_option maxRecDepth 100000
/-! L3: promises of the tables' defs -/
namespace L3
open PySem (Addr Str PyData NestedKey)

def pend : D := .tup [.str "pending"]
/-! the next value of a reference: its record, what is far -/
def nextV (S : Tb) (o : Bool) (v n : Int) : D :=
  if v = S.vat then .tup [(dget S.promises (.int n)).getD pend, .non]
  else match dget S.known (rf o v n) with
    | some x => .tup [x, .non]
    | none => .tup [pend, rf o v n]
def sp_is_own : L3.Spec := fun xs M Q _ => ∃ (t : Addr) (lt : Fl → Addr) (S : Tb) (o : Bool) (v n : Int), xs = [.ref t, rf o v n] ∧ TT M t lt S ∧ Q (.bl (decide (v = S.vat))) M
def sp_next_value : L3.Spec := fun xs M Q _ => ∃ (t : Addr) (lt : Fl → Addr) (S : Tb) (o : Bool) (v n : Int), xs = [.ref t, rf o v n] ∧ TT M t lt S ∧ (v.natAbs ≤ 1000000 ∧ n.natAbs ≤ 1000000) ∧ Q (nextV S o v n) M
theorem ln_is_own {xs : List D} {M : Mp} {Q X : Post} (h : sp_is_own xs M Q X) : xs.length = 2 := by obtain ⟨_, _, _, _, _, _, rfl, _⟩ := h; rfl
theorem ln_next_value {xs : List D} {M : Mp} {Q X : Post} (h : sp_next_value xs M Q X) : xs.length = 2 := by obtain ⟨_, _, _, _, _, _, rfl, _⟩ := h; rfl
end L3
namespace L3
open PySem (Addr Str PyData NestedKey)
/-! ### loading -/
theorem dput_new {kvs : List (D × D)} {k v : D} (h : ¬ dhas kvs k = true) : dput kvs k v = kvs ++ [(k, v)] := by unfold dput; rw [if_neg h]
theorem take_dput {kvs : List (D × D)} (ex : ∀ p ∈ kvs, p.1.ex = true) (nd : kvs.Pairwise fun p q => p.1 ≠ q.1) {j : Nat} (hj : j < kvs.length) : dput (kvs.take j) kvs[j].1 kvs[j].2 = kvs.take (j + 1) := by
  rw [dput_new, List.take_succ, List.getElem?_eq_getElem hj]; rfl
  intro h
  unfold dhas at h
  rw [List.any_eq_true] at h
  obtain ⟨p, hp, e⟩ := h
  obtain ⟨i, hi, e2⟩ := List.mem_iff_getElem.mp hp
  rw [List.length_take] at hi
  rw [List.getElem_take] at e2
  subst e2
  have := (eqv_ex (ex _ (List.getElem_mem _)) (ex _ (List.getElem_mem _))).mp e
  exact List.pairwise_iff_getElem.mp nd i j (by omega) hj (by omega) this
theorem nodup_get {kvs : List (D × D)} (ex : ∀ p ∈ kvs, p.1.ex = true) (nd : kvs.Pairwise fun p q => p.1 ≠ q.1) : ∀ {j : Nat} (hj : j < kvs.length), dget kvs kvs[j].1 = some kvs[j].2 := by
  induction kvs with
  | nil => intro j hj; cases hj
  | cons p r ih =>
    intro j hj
    unfold dget
    rw [List.find?_cons]
    cases j with
    | zero => simp [eqv_refl]
    | succ j =>
      have hj' : j < r.length := by simpa using hj
      have hne : p.1.eqv r[j].1 = false := by
        rw [Bool.eq_false_iff]
        intro z
        exact (List.pairwise_cons.mp nd).1 _ (List.getElem_mem hj') ((eqv_ex (ex _ List.mem_cons_self) (ex _ (List.mem_cons_of_mem _ (List.getElem_mem hj')))).mp z)
      simp only [List.getElem_cons_succ, hne]
      exact ih (fun q hq => ex q (List.mem_cons_of_mem _ hq)) (List.pairwise_cons.mp nd).2 hj'
def KOD (hk : D → Bool) (kvs : List (D × D)) : Prop := (∀ p ∈ kvs, hk p.1 = true ∧ p.1.ex = true) ∧ (kvs.Pairwise fun p q => p.1 ≠ q.1) ∧ kvs.length ≤ 100000
def loadB : Ss := .cons (.setIx (.var 3) (.var 5) (.ix (.ix (.var 1) (.var 4)) (.var 5))) .nil
def loadL : Ss := .cons (.expr (.mth (.var 6) .append (.cons (.var 7) .nil))) .nil
section
variable {P : Pr} {X : D → Lo → Mp → Prop} {nx : (Mp → Mp) → Lo → Mp → Prop} {rt : (Mp → Mp) → Post} {bk ct : (Mp → Mp) → Lo → Mp → Prop} {N : Mp} {s b c : Addr} {sd kvs : List (D × D)} {w : Str} {a0 a2 k a6 a7 : Option D}
theorem load_D (h1 : N s = some (.dct sd)) (h2 : dget sd (.str w) = some (.ref b)) (h3 : N b = some (.dct kvs)) (h4 : N c = some (.dct [])) (n1 : c ≠ b) (n2 : c ≠ s) (n3 : b ≠ s) (ok : KOD D.hk1 kvs)
    (q : ∀ k' M', Fr (At c) N (unlk b M') → (unlk b M') c = some (.dct kvs) → nx (unlk b) [a0, some (.ref s), a2, some (.ref c), some (.str w), k', a6, a7] M') :
    wpIt .plain [.ref b] N fun xs G M2 fin => forL (.one 5) (fun D σ M => wpSs P loadB (fun x σ M => X x σ (fin M)) D σ M) G ⟨nx fin, rt fin, bk fin, ct fin⟩ xs [a0, some (.ref s), a2, some (.ref c), some (.str w), k, a6, a7] M2 := by
  obtain ⟨ok1, nd, hl⟩ := ok
  refine (w_itD h3).mpr ?_
  have ex : ∀ p ∈ kvs, p.1.ex = true := fun p hp => (ok1 p hp).2
  refine forL_inv (fun j σ M' => (∀ a, a ≠ c → a ≠ b → N a ≠ none → M' a = N a) ∧ M' b = some (.lck kvs) ∧ M' c = some (.dct (kvs.take j)) ∧ ∃ k', σ = [a0, some (.ref s), a2, some (.ref c), some (.str w), k', a6, a7])
    ⟨fun a _ n _ => mset_ne n, mset_same, by rw [mset_ne n1]; exact h4, k, rfl⟩ ?_ ?_
  · rintro j x σ M' nx' hx ⟨fr, hb, hc, k', rfl⟩ hnx
    refine ⟨hb, ?_⟩
    have hj : j < kvs.length := by have := (List.getElem?_eq_some_iff.mp hx).1; simpa using this
    have hx' : x = kvs[j].1 := by simpa [hj] using hx.symm
    subst hx'
    have hs : M' s = some (.dct sd) := by rw [fr s (Ne.symm n2) (Ne.symm n3) (by rw [h1]; exact nofun)]; exact h1
    unfold loadB
    simp only [wpSs, wpS, wpE, wpTg, List.getElem?_cons_zero, List.getElem?_cons_succ, List.set_cons_zero, List.set_cons_succ, Option.some.injEq, exists_eq_left']
    refine (w_ixD hs).mpr ⟨rfl, _, h2, (w_ixLk hb).mpr ⟨(ok1 _ (List.getElem_mem hj)).1, _, nodup_get ex nd hj, ?_⟩⟩
    refine (w_setD hc).mpr ⟨⟨(ok1 _ (List.getElem_mem hj)).1, by rw [List.length_take]; exact Nat.lt_of_le_of_lt (Nat.le_trans (Nat.min_le_right _ _) hl) (by show 100000 < 2 ^ 24; decide)⟩, hnx _ _ ⟨fun a na nb nn => ?_, ?_, ?_, _, rfl⟩⟩
    · rw [mset_ne na]; exact fr a na nb nn
    · rw [mset_ne (Ne.symm n1)]; exact hb
    · rw [mset_same, take_dput ex nd hj]
  · rintro σ M' ⟨fr, hb, hc, k', rfl⟩
    refine ⟨hb, q k' _ ?_ ?_⟩
    · intro a na nn
      have e : unlk b M' = mset M' b (.dct kvs) := by unfold unlk; rw [hb]; rfl
      rw [e]
      by_cases ab : a = b
      · subst ab; rw [mset_same, h3]
      · rw [mset_ne ab]; exact fr a na ab nn
    · have e : unlk b M' = mset M' b (.dct kvs) := by unfold unlk; rw [hb]; rfl
      rw [e, mset_ne n1, hc, List.length_map, List.take_of_length_le (Nat.le_refl _)]
theorem load_T (h1 : N s = some (.dct sd)) (h2 : dget sd (.str w) = some (.ref b)) (h3 : N b = some (.dcT kvs)) (h4 : N c = some (.dcT [])) (n1 : c ≠ b) (n2 : c ≠ s) (n3 : b ≠ s) (ok : KOD D.hkT kvs)
    (q : ∀ k' M', Fr (At c) N (unlk b M') → (unlk b M') c = some (.dcT kvs) → nx (unlk b) [a0, some (.ref s), a2, some (.ref c), some (.str w), k', a6, a7] M') :
    wpIt .plain [.ref b] N fun xs G M2 fin => forL (.one 5) (fun D σ M => wpSs P loadB (fun x σ M => X x σ (fin M)) D σ M) G ⟨nx fin, rt fin, bk fin, ct fin⟩ xs [a0, some (.ref s), a2, some (.ref c), some (.str w), k, a6, a7] M2 := by
  obtain ⟨ok1, nd, hl⟩ := ok
  refine (w_itT h3).mpr ?_
  have ex : ∀ p ∈ kvs, p.1.ex = true := fun p hp => (ok1 p hp).2
  refine forL_inv (fun j σ M' => (∀ a, a ≠ c → a ≠ b → N a ≠ none → M' a = N a) ∧ M' b = some (.lkT kvs) ∧ M' c = some (.dcT (kvs.take j)) ∧ ∃ k', σ = [a0, some (.ref s), a2, some (.ref c), some (.str w), k', a6, a7])
    ⟨fun a _ n _ => mset_ne n, mset_same, by rw [mset_ne n1]; exact h4, k, rfl⟩ ?_ ?_
  · rintro j x σ M' nx' hx ⟨fr, hb, hc, k', rfl⟩ hnx
    refine ⟨hb, ?_⟩
    have hj : j < kvs.length := by have := (List.getElem?_eq_some_iff.mp hx).1; simpa using this
    have hx' : x = kvs[j].1 := by simpa [hj] using hx.symm
    subst hx'
    have hs : M' s = some (.dct sd) := by rw [fr s (Ne.symm n2) (Ne.symm n3) (by rw [h1]; exact nofun)]; exact h1
    unfold loadB
    simp only [wpSs, wpS, wpE, wpTg, List.getElem?_cons_zero, List.getElem?_cons_succ, List.set_cons_zero, List.set_cons_succ, Option.some.injEq, exists_eq_left']
    refine (w_ixD hs).mpr ⟨rfl, _, h2, (w_ixLkT hb).mpr ⟨(ok1 _ (List.getElem_mem hj)).1, _, nodup_get ex nd hj, ?_⟩⟩
    refine (w_setT hc).mpr ⟨⟨(ok1 _ (List.getElem_mem hj)).1, by rw [List.length_take]; exact Nat.lt_of_le_of_lt (Nat.le_trans (Nat.min_le_right _ _) hl) (by show 100000 < 2 ^ 24; decide)⟩, hnx _ _ ⟨fun a na nb nn => ?_, ?_, ?_, _, rfl⟩⟩
    · rw [mset_ne na]; exact fr a na nb nn
    · rw [mset_ne (Ne.symm n1)]; exact hb
    · rw [mset_same, take_dput ex nd hj]
  · rintro σ M' ⟨fr, hb, hc, k', rfl⟩
    refine ⟨hb, q k' _ ?_ ?_⟩
    · intro a na nn
      have e : unlk b M' = mset M' b (.dcT kvs) := by unfold unlk; rw [hb]; rfl
      rw [e]
      by_cases ab : a = b
      · subst ab; rw [mset_same, h3]
      · rw [mset_ne ab]; exact fr a na ab nn
    · have e : unlk b M' = mset M' b (.dcT kvs) := by unfold unlk; rw [hb]; rfl
      rw [e, mset_ne n1, hc, List.length_map, List.take_of_length_le (Nat.le_refl _)]
theorem load_L {ds : List D} {a3 a5 : Option D} {w : D} (h3 : N b = some (.lst ds)) (h4 : N c = some (.lst [])) (n1 : c ≠ b) (hl : ds.length ≤ 100000)
    (q : ∀ k' M', Fr (At c) N M' → M' c = some (.lst ds) → nx id [a0, some (.ref s), a2, a3, some w, a5, some (.ref c), k'] M') :
    wpIt .plain [.ref b] N fun xs G M2 fin => forL (.one 7) (fun D σ M => wpSs P loadL (fun x σ M => X x σ (fin M)) D σ M) G ⟨nx fin, rt fin, bk fin, ct fin⟩ xs [a0, some (.ref s), a2, a3, some w, a5, some (.ref c), k] M2 := by
  refine (w_itL h3).mpr ?_
  refine forL_inv (fun j σ M' => Fr (At c) N M' ∧ M' c = some (.lst (ds.take j)) ∧ ∃ k', σ = [a0, some (.ref s), a2, a3, some w, a5, some (.ref c), k'])
    ⟨Fr.refl, h4, k, rfl⟩ ?_ ?_
  · rintro j x σ M' nx' hx ⟨fr, hc, k', rfl⟩ hnx
    refine ⟨fr.get (Ne.symm n1) h3, ?_⟩
    have hj : j < ds.length := (List.getElem?_eq_some_iff.mp hx).1
    unfold loadL
    simp only [wpSs, wpS, wpE, wpEs, wpTg, List.getElem?_cons_zero, List.getElem?_cons_succ, List.set_cons_zero, List.set_cons_succ, Option.some.injEq, exists_eq_left']
    refine ⟨by rw [w_rcvL hc]; rfl, trivial, (w_app hc).mpr ⟨by rw [List.length_take]; exact Nat.lt_of_le_of_lt (Nat.le_trans (Nat.min_le_right _ _) hl) (by show 100000 < 2 ^ 24; decide), hnx _ _ ⟨fr.trans (Fr.set rfl), ?_, _, rfl⟩⟩⟩
    rw [mset_same, List.take_succ, hx]; rfl
  · rintro σ M' ⟨fr, hc, k', rfl⟩
    refine ⟨fr.get (Ne.symm n1) h3, q k' _ fr ?_⟩
    rw [List.take_of_length_le (Nat.le_refl _)] at hc
    exact hc
end
theorem TT.wr {M M1 : Mp} {t : Addr} {lt : Fl → Addr} {S : Tb} (h : TT M t lt S) {i : Fl} {o : MO} (f : Fr (At (lt i)) M M1) (e : M1 (lt i) = some o) (ft : Tb.fit i o) : TT M1 t lt (S.put i o) := by
  refine ⟨h.inj, h.ne, ?_, fun j => ?_⟩
  · rw [Tb.put_ins]; exact f.get (h.ne i).symm h.ins
  · by_cases ej : j = i
    · subst ej; rw [e, Tb.put_box ft]
    · rw [Tb.put_ne ej]; exact f.get (fun z => ej (h.inj _ _ z)) (h.box j)
theorem SS.wr {M M1 : Mp} {s : Addr} {ls : Fl → Addr} {S : Tb} (h : SS M s ls S) {i : Fl} {o : MO} (n : i ≠ .order) (f : Fr (At (ls i)) M M1) (e : M1 (ls i) = some o) (ft : Tb.fit i o) : SS M1 s ls (S.put i o) := by
  refine ⟨h.inj, h.ne, ?_, fun j nj => ?_⟩
  · rw [Tb.put_dct]; exact f.get (h.ne i n).symm h.dct
  · by_cases ej : j = i
    · subst ej; rw [e, Tb.put_box ft]
    · rw [Tb.put_ne ej]; exact f.get (fun z => ej (h.inj _ _ nj n z)) (h.box j nj)
def loaded (g : D) (S : Tb) : Tb := { T0 S.vat with prog := g, objects := S.objects, promises := S.promises, answers := S.answers, lent := S.lent, held := S.held, known := S.known, hoped := S.hoped, places := S.places, arrived := S.arrived, pins := S.pins, queue := S.queue, parked := S.parked, early := S.early, waiting := S.waiting, listeners := S.listeners, transfers := S.transfers }
structure LoadOk (S : Tb) : Prop where
  objects : KOD D.hk1 S.objects
  promises : KOD D.hk1 S.promises
  answers : KOD D.hkT S.answers
  lent : KOD D.hkT S.lent
  held : KOD D.hkT S.held
  known : KOD D.hkT S.known
  hoped : KOD D.hkT S.hoped
  places : KOD D.hkT S.places
  arrived : KOD D.hkT S.arrived
  pins : KOD D.hkT S.pins
  queue : S.queue.length ≤ 100000
  parked : S.parked.length ≤ 100000
  early : S.early.length ≤ 100000
  waiting : S.waiting.length ≤ 100000
  listeners : S.listeners.length ≤ 100000
  transfers : S.transfers.length ≤ 100000
def sp__law_load : L3.Spec := fun xs M Q _ => ∃ (t : Addr) (lt : Fl → Addr) (s : Addr) (ls : Fl → Addr) (S : Tb) (g : D), xs = [.ref t, .ref s] ∧ TT M t lt { T0 S.vat with prog := g } ∧ SS M s ls S ∧ (∀ a, OT t lt a → OS s ls a → False) ∧ LoadOk S ∧
  ∀ M', TT M' t lt (loaded g S) → Fr (OT t lt) M M' → Q (.ref t) M'
theorem ln__law_load {xs : List D} {M : Mp} {Q X : Post} (h : sp__law_load xs M Q X) : xs.length = 2 := by obtain ⟨_, _, _, _, _, _, rfl, _⟩ := h; rfl
end L3
namespace L3
open PySem (Addr Str PyData NestedKey)
/-! ### telling -/
def sp__law_told : L3.Spec := fun xs M Q _ => ∃ (t : Addr) (lt : Fl → Addr) (S : Tb) (n m : Nat), xs = [.ref t] ∧ TT M t lt S ∧ TOk n m S ∧ ∀ a M', Deep M' (.ref a) (toldPy S) → Fr No M M' → Q (.ref a) M'
def dueOf (S : Tb) : Tb := { S with order := List.replicate S.log.length (.int S.vat) }
def sp__law_due : L3.Spec := fun xs M Q _ => ∃ (s : Addr) (ls : Fl → Addr) (S : Tb) (n m : Nat), xs = [.ref s] ∧ SS M s ls S ∧ TOk n m S ∧ S.log.length ≤ 100000 ∧ (D.int S.vat).sm = true ∧ ∀ a M', Deep M' (.ref a) (toldPy (dueOf S)) → Fr No M M' → Q (.ref a) M'
theorem ln__law_told {xs : List D} {M : Mp} {Q X : Post} (h : sp__law_told xs M Q X) : xs.length = 1 := by obtain ⟨_, _, _, _, _, rfl, _⟩ := h; rfl
theorem ln__law_due {xs : List D} {M : Mp} {Q X : Post} (h : sp__law_due xs M Q X) : xs.length = 1 := by obtain ⟨_, _, _, _, _, rfl, _⟩ := h; rfl
section
variable {M N : Mp} {xs : List (Addr × MO)} {t s : Addr} {lt ls : Fl → Addr} {S : Tb} {o : MO} {Q : Post}
theorem told_new (A : Al No M xs N) (T : TT N t lt S) (n : ∀ a N', Al No M (xs ++ [(a, o)]) N' → TT N' t lt S → Q (.ref a) N') : wpNew N o Q := fun a h => n a _ (A.snoc h) (T.new h)
theorem due_new (A : Al No M xs N) (T : SS N s ls S) (n : ∀ a N', Al No M (xs ++ [(a, o)]) N' → SS N' s ls S → Q (.ref a) N') : wpNew N o Q := fun a h => n a _ (A.snoc h) (T.new h)
end
theorem deep_row {M : Mp} {a : Addr} {l : List D} (h : M a = some (.lst l)) (s : D.sms l = true) : Deep M (.ref a) (pl l) := .lst h (sms_deep s)
theorem row_at {n m : Nat} {S : Tb} (h : TOk n m S) {l : List D} (hl : l ∈ S.ls1) : D.sms l = true := (h.rows l hl).1
end L3
namespace L3
theorem fm_const (d : D) : ∀ l : List D, l.filterMap (fun _ => some d) = List.replicate l.length d
  | [] => rfl
  | a :: l => by rw [List.filterMap_cons, List.length_cons, List.replicate_succ, fm_const d l]
end L3
end
section
set_option autoImplicit false
set_option linter.all false
set_option maxRecDepth 100000
/-! L3: promises of the tables' defs: walking promises -/
namespace L3
open PySem (Addr Str PyData NestedKey)

def hdS : D → Str
  | .tup (.str x :: _) => x
  | _ => ""
def argD : D → D
  | .tup (_ :: y :: _) => y
  | _ => .non
def recF (S : Tb) : D → D
  | .tup [_, .int w, .int n] => if w = S.vat then (dget S.promises (.int n)).getD pend else (dget S.known (rf false w n)).getD pend
  | _ => .non
def farF (S : Tb) : D → D
  | .tup [x, .int w, .int n] => if w = S.vat then .non else .tup [x, .int w, .int n]
  | _ => .non
def rsEnd (v : D) : D := if hdS v = "object" then .tup [.tup [.str "object", v], .non] else .tup [.tup [.str "data", v], .non]
def rsF (S : Tb) : Nat → List D → D → D
  | 0, _, _ => .non
  | k + 1, met, v => if hdS v = "promise" then (if (met.any fun z => z.eqv v) = true then .tup [.tup [.str "cycle"], .non] else
      if hdS (recF S v) = "broken" then .tup [recF S v, .non] else if hdS (recF S v) = "fulfilled" then rsF S k (met ++ [v]) (argD (recF S v)) else .tup [pend, farF S v]) else rsEnd v
structure RsOk (R : D → Prop) (V K : Nat) (S : Tb) : Prop where
  pr : ∃ n, DOk KI (Rec R V K) n S.promises
  kn : ∃ n, DOk KR (Stl R) n S.known
  sz : S.promises.length + S.known.length ≤ 900
/-! no more values are met than there are records -/
theorem pigeon : ∀ {l L : List D}, l.Nodup → (∀ x ∈ l, x ∈ L) → l.length ≤ L.length := by
  classical
  intro l
  induction l with
  | nil => intro L _ _; exact Nat.zero_le _
  | cons a l ih =>
    intro L nd h
    obtain ⟨n1, n2⟩ := List.nodup_cons.mp nd
    have ha := h a List.mem_cons_self
    obtain ⟨s, t, e⟩ := List.append_of_mem ha
    have : l.length ≤ (s ++ t).length := ih n2 fun x hx => by
      have := h x (List.mem_cons_of_mem _ hx)
      rw [e] at this
      rcases List.mem_append.mp this with g | g
      · exact List.mem_append_left _ g
      · rcases List.mem_cons.mp g with g | g
        · exact absurd (g ▸ hx) n1
        · exact List.mem_append_right _ g
    rw [e]
    simp only [List.length_append, List.length_cons] at this ⊢
    omega
def metL (S : Tb) : List D := S.promises.map (fun p => match p.1 with
  | .int i => rf false S.vat i
  | _ => .non) ++ S.known.map (·.1)
def MetOk (S : Tb) (met : List D) : Prop := met.Nodup ∧ (∀ x ∈ met, x ∈ metL S) ∧ ∀ x ∈ met, KR x
theorem MetOk.len {S : Tb} {met : List D} (h : MetOk S met) : met.length ≤ S.promises.length + S.known.length := by
  have := pigeon h.1 h.2.1
  unfold metL at this
  simpa using this
section
variable {R : D → Prop} {V K : Nat} {S : Tb} {w n : Int}
theorem rec_cases (ok : RsOk R V K S) : (recF S (rf false w n) = pend ∨ Rec R V K (recF S (rf false w n))) := by
  unfold recF rf
  simp only
  split
  · cases e : dget S.promises (.int n) with
    | none => exact .inl rfl
    | some x =>
      obtain ⟨m, h⟩ := ok.pr
      exact .inr (h.get e)
  · cases e : dget S.known _ with
    | none => exact .inl rfl
    | some x =>
      obtain ⟨m, h⟩ := ok.kn
      exact .inr (.inr (.inl (h.get e)))
theorem rec_ok (ok : RsOk R V K S) : Rec R V K (recF S (rf false w n)) := (rec_cases ok).elim (fun e => .inl e) fun h => h
theorem rec_ful {v : D} (h : Rec R V K v) (e : hdS v = "fulfilled") : ∃ x, v = .tup [.str "fulfilled", x] ∧ Val R x := by
  rcases h with rfl | (⟨x, rfl, h⟩ | ⟨x, rfl, h⟩) | ⟨a, b, c, rfl, _⟩
  · exact absurd e (by decide)
  · exact ⟨x, rfl, h⟩
  · exact absurd e (by show ¬ (("broken" : Str) = "fulfilled"); decide)
  · exact absurd e (by show ¬ (("forwarded" : Str) = "fulfilled"); decide)
theorem met_in (ok : RsOk R V K S) (h1 : w.natAbs ≤ 1000000) (h2 : n.natAbs ≤ 1000000) (e : hdS (recF S (rf false w n)) = "fulfilled") : rf false w n ∈ metL S := by
  have key : recF S (rf false w n) ≠ pend := fun z => by rw [z] at e; exact absurd e (by decide)
  unfold recF rf at key
  simp only at key
  unfold metL
  split at key
  · rename_i hw
    subst hw
    cases g : dget S.promises (.int n) with
    | none => rw [g] at key; exact absurd rfl key
    | some x =>
      obtain ⟨p, hp, ep, _⟩ := dget_mem g
      obtain ⟨m, h⟩ := ok.pr
      obtain ⟨⟨i, hi, hb⟩, _⟩ := h.all p hp
      rw [hi, eqv_ex (x := .int i) (y := .int n) rfl rfl] at ep
      cases ep
      refine List.mem_append_left _ (List.mem_map.mpr ⟨p, hp, ?_⟩)
      rw [hi]
  · rename_i hw
    cases g : dget S.known (rf false w n) with
    | none => unfold rf at g; rw [g] at key; exact absurd rfl key
    | some x =>
      obtain ⟨p, hp, ep, _⟩ := dget_mem g
      obtain ⟨m, h⟩ := ok.kn
      obtain ⟨kr, _⟩ := h.all p hp
      rw [eqv_ex kr.sm.2.1 rfl] at ep
      exact List.mem_append_right _ (List.mem_map.mpr ⟨p, hp, ep⟩)
theorem met_add {met : List D} (ok : RsOk R V K S) (hm : MetOk S met) (h1 : w.natAbs ≤ 1000000) (h2 : n.natAbs ≤ 1000000) (e : hdS (recF S (rf false w n)) = "fulfilled") (ni : ¬ (met.any fun z => z.eqv (rf false w n)) = true) : MetOk S (met ++ [rf false w n]) := by
  refine ⟨?_, fun x hx => ?_, fun x hx => ?_⟩
  · rw [List.nodup_append]
    refine ⟨hm.1, by simp, fun a ha b hb z => ?_⟩
    rw [List.mem_singleton] at hb
    subst hb
    subst z
    exact ni (List.any_eq_true.mpr ⟨_, ha, eqv_refl _⟩)
  · rcases List.mem_append.mp hx with hx | hx
    · exact hm.2.1 x hx
    · rw [List.mem_singleton] at hx; subst hx; exact met_in ok h1 h2 e
  · rcases List.mem_append.mp hx with hx | hx
    · exact hm.2.2 x hx
    · rw [List.mem_singleton] at hx; subst hx; exact ⟨false, w, n, rfl, h1, h2⟩
end
theorem val_hd {R : D → Prop} {v : D} (h : Val R v) : ∃ x ds, v = .tup (.str x :: ds) ∧ (x = "promise" → ∃ w n : Int, v = rf false w n ∧ w.natAbs ≤ 1000000 ∧ n.natAbs ≤ 1000000 ∧ R v) := by
  rcases h with (⟨o, w, n, rfl, h1, h2, h3⟩ | ⟨x, ds, rfl, _, hx, _⟩) | ⟨as, rfl, _⟩
  · cases o with
    | true => exact ⟨_, _, rfl, fun e => absurd e (by decide)⟩
    | false => exact ⟨_, _, rfl, fun _ => ⟨w, n, rfl, h1, h2, h3⟩⟩
  · exact ⟨x, ds, rfl, fun e => absurd e hx⟩
  · exact ⟨_, _, rfl, fun e => absurd e (by decide)⟩
theorem rec_hd {R : D → Prop} {V K : Nat} {v : D} (h : Rec R V K v) : ∃ x ds, v = .tup (.str x :: ds) := by
  rcases h with rfl | (⟨x, rfl, h⟩ | ⟨x, rfl, h⟩) | ⟨a, b, c, rfl, _⟩
  · exact ⟨_, _, rfl⟩
  · exact ⟨_, _, rfl⟩
  · exact ⟨_, _, rfl⟩
  · exact ⟨_, _, rfl⟩
/-- what is far of a promise that has no record -/
theorem next_rs {R : D → Prop} {V K : Nat} {S : Tb} {w n : Int} (ok : RsOk R V K S) : ∃ f, nextV S false w n = .tup [recF S (rf false w n), f] ∧ (hdS (recF S (rf false w n)) ≠ "broken" → hdS (recF S (rf false w n)) ≠ "fulfilled" → f = farF S (rf false w n)) := by
  unfold nextV recF farF
  have e1 : rf false w n = .tup [.str "promise", .int w, .int n] := rfl
  simp only [e1]
  split
  · rename_i hw
    exact ⟨.non, rfl, fun _ _ => rfl⟩
  · rename_i hw
    cases g : dget S.known (.tup [.str "promise", .int w, .int n]) with
    | none => exact ⟨_, rfl, fun _ _ => rfl⟩
    | some x =>
      refine ⟨.non, rfl, fun h1 h2 => ?_⟩
      obtain ⟨m, h⟩ := ok.kn
      rcases h.get g with ⟨y, rfl, _⟩ | ⟨y, rfl, _⟩
      · exact absurd rfl h2
      · exact absurd rfl h1
def sp_resolve : L3.Spec := fun xs M Q _ => ∃ (t : Addr) (lt : Fl → Addr) (S : Tb) (R : D → Prop) (V K : Nat) (v : D), xs = [.ref t, v] ∧ TT M t lt S ∧ RsOk R V K S ∧ Val R v ∧ ∀ M', Fr No M M' → Q (rsF S 1000 [] v) M'
def sp__law_resolve : L3.Spec := fun xs M Q _ => ∃ (s : Addr) (ls : Fl → Addr) (S : Tb) (R : D → Prop) (V K : Nat) (v : D), xs = [.ref s, v] ∧ SS M s ls S ∧ RsOk R V K S ∧ Val R v ∧ ∀ a M' x y, rsF S 1000 [] v = .tup [x, y] → M' a = some (.lst [x, y]) → Fr No M M' → Q (.ref a) M'
theorem ln_resolve {xs : List D} {M : Mp} {Q X : Post} (h : sp_resolve xs M Q X) : xs.length = 2 := by obtain ⟨_, _, _, _, _, _, _, rfl, _⟩ := h; rfl
theorem ln__law_resolve {xs : List D} {M : Mp} {Q X : Post} (h : sp__law_resolve xs M Q X) : xs.length = 2 := by obtain ⟨_, _, _, _, _, _, _, rfl, _⟩ := h; rfl
end L3
end
section
set_option autoImplicit false
set_option linter.all false
set_option maxRecDepth 100000
/-! L3: the drawn tables -/
namespace L3
open PySem (Addr Str PyData NestedKey)

theorem Fr.hideP {O O' : Addr → Prop} {M M1 : Mp} (h : ∀ a, O' a → M a = none) (f : Fr (fun a => O a ∨ O' a) M M1) : Fr O M M1 := fun a n z => f a (fun w => w.elim n fun e => z (h a e)) z
theorem sEnd_nat {n t : Nat} (h : t ≤ n) : sEnd n (t : Int) = t := by
  unfold sEnd
  rw [if_pos (by omega)]
  simp only [Int.toNat_natCast, Nat.min_eq_left h]
theorem cut_lo {α : Type} {l : List α} {t : Nat} (h : t ≤ l.length) : cut l (.int t) .non = l.drop t := by
  show (l.drop (sEnd l.length t)).take (l.length - sEnd l.length t) = _
  rw [sEnd_nat h, List.take_of_length_le (by rw [List.length_drop]; omega)]
theorem cut_hi {α : Type} {l : List α} {t : Nat} (h : t ≤ l.length) : cut l .non (.int t) = l.take t := by
  show (l.drop 0).take (sEnd l.length t - 0) = _
  rw [sEnd_nat h]; rfl
/-- a weight that is small -/
def KF (vat : Int) (d : D) : Prop := ∃ (o : Bool) (v n : Int), d = rf o v n ∧ v ≠ vat ∧ 1 ≤ v ∧ v ≤ 4 ∧ 1 ≤ n ∧ n ≤ 2
theorem KF.kr {v : Int} {d : D} (h : KF v d) : KR d := by
  obtain ⟨o, w, n, rfl, _, h1, h2, h3, h4⟩ := h
  exact ⟨o, w, n, rfl, by omega, by omega⟩
theorem farD_mem {v : Int} {d : D} (h : d ∈ farD (oth v)) : KF v d := by
  unfold farD farW at h
  rcases List.mem_append.mp h with h | h <;> obtain ⟨w, hw, h⟩ := List.mem_flatMap.mp h <;> obtain ⟨h1, h2, h3⟩ := oth_mem hw <;> simp only [List.mem_cons, List.not_mem_nil, or_false] at h <;> rcases h with rfl | rfl
  · exact ⟨true, w, 1, rfl, h1, h2, h3, by decide, by decide⟩
  · exact ⟨true, w, 2, rfl, h1, h2, h3, by decide, by decide⟩
  · exact ⟨false, w, 1, rfl, h1, h2, h3, by decide, by decide⟩
  · exact ⟨false, w, 2, rfl, h1, h2, h3, by decide, by decide⟩
theorem farD_nodup {v : Int} (h0 : 1 ≤ v) (h1 : v ≤ 4) : (farD (oth v)).Pairwise fun a b => a ≠ b := by
  have key : ∀ v : Int, ((farD (oth v)).Pairwise fun a b => a.eqv b = false) → (farD (oth v)).Pairwise fun a b => a ≠ b := fun v h => h.imp fun {a b} e z => by rw [z, eqv_refl] at e; cases e
  have : v = 1 ∨ v = 2 ∨ v = 3 ∨ v = 4 := by omega
  rcases this with rfl | rfl | rfl | rfl <;> exact key _ (by decide +kernel)
/-- the tables as they are drawn -/
structure Tbl (S : Tb) : Prop where
  gn : Gn S
  top : S.top ≤ 6
  objects : DOk KI (Thing (Rg S.vat)) 3 S.objects
  promises : DOk KI (Rec (Rg S.vat) 17 4) 9 S.promises
  prom0 : 0 < S.promises.length
  answers : DOk KP (Ans (Rg S.vat) 17 4) 3 S.answers
  lent : DOk KR (Wt 17 4) 9 S.lent
  held : DOk KR (Wt 17 4) 12 S.held
  heldK : (S.held.map (·.1)).Perm (farD (oth S.vat))
  known : DOk KR (Stl (Rg S.vat)) 12 S.known
  rest : S = { T0 S.vat with top := S.top, objects := S.objects, promises := S.promises, answers := S.answers, lent := S.lent, held := S.held, known := S.known }
def sp__law_table : L3.Spec := fun xs M Q _ => ∃ (b d : Addr), xs = [.ref b] ∧ BX M b d ∧ ∀ s ls S M', SB M' b d s ls S → Tbl S → Fr (At b) M M' → (∀ a, OS s ls a → M a = none) → Q (.ref s) M'
theorem ln__law_table {xs : List D} {M : Mp} {Q X : Post} (h : sp__law_table xs M Q X) : xs.length = 1 := by obtain ⟨_, _, rfl, _⟩ := h; rfl
/-- while the tables are drawn: p, a list that stays -/
structure TI (M0 : Mp) (b d s : Addr) (ls : Fl → Addr) (p : Addr) (os : List D) (M : Mp) (S : Tb) : Prop where
  sb : SB M b d s ls S
  pl : M p = some (.lst os)
  fr : Fr (fun a => a = b ∨ OS s ls a) M0 M
  pb : p ≠ b
  ps : ¬ OS s ls p
section
variable {M0 M M1 : Mp} {b d s p q : Addr} {ls : Fl → Addr} {os : List D} {S : Tb} {o : MO}
theorem TI.draw (h : TI M0 b d s ls p os M S) (x : BX M1 b d) (f : Fr (At b) M M1) : TI M0 b d s ls p os M1 S :=
  ⟨h.sb.at_ x f, f.get (fun e => h.pb e) h.pl, h.fr.trans (f.mono fun a e => .inl e), h.pb, h.ps⟩
theorem TI.no (h : TI M0 b d s ls p os M S) (f : Fr No M M1) : TI M0 b d s ls p os M1 S :=
  ⟨h.sb.no f, f.get (fun e => e) h.pl, h.fr.trans f.any, h.pb, h.ps⟩
theorem TI.new (h : TI M0 b d s ls p os M S) (hq : M q = none) : TI M0 b d s ls p os (mset M q o) S := h.no (Fr.new hq)
theorem SB.wr (h : SB M b d s ls S) {i : Fl} (n : i ≠ .order) (f : Fr (At (ls i)) M M1) (e : M1 (ls i) = some o) (ft : Tb.fit i o) : SB M1 b d s ls (S.put i o) :=
  ⟨h.bx.fr f (fun e => h.nb (.inr ⟨i, n, e⟩)) (fun e => h.nd (.inr ⟨i, n, e⟩)), h.ss.wr n f e ft, h.nb, h.nd⟩
theorem TI.put (h : TI M0 b d s ls p os M S) (i : Fl) (n : i ≠ .order) (ft : Tb.fit i o) : TI M0 b d s ls p os (mset M (ls i) o) (S.put i o) :=
  ⟨h.sb.wr n (Fr.set rfl) mset_same ft, by rw [mset_ne (fun e => h.ps (.inr ⟨i, n, e⟩))]; exact h.pl, h.fr.trans (Fr.set (.inr (.inr ⟨i, n, rfl⟩))), h.pb, h.ps⟩
end
theorem dput_pos {kvs : List (D × D)} {k v : D} : 0 < (dput kvs k v).length := by
  unfold dput
  split
  · rename_i h
    rw [List.length_map]
    cases kvs with
    | nil => exact absurd h Bool.false_ne_true
    | cons p r => exact Nat.succ_pos _
  · rw [List.length_append]; exact Nat.succ_pos _
theorem len_lt {kvs : List (D × D)} {K V : D → Prop} {n : Nat} (h : DOk K V n kvs) (hn : n ≤ 100000) : kvs.length < PySem.sizeLine := Nat.lt_of_le_of_lt h.len (Nat.lt_of_le_of_lt hn (by show 100000 < 2 ^ 24; decide))
theorem Txt1.p : Txt1 "p" := ⟨rfl, Nat.le_of_ble_eq_true rfl⟩
theorem Txt1.q : Txt1 "q" := ⟨rfl, Nat.le_of_ble_eq_true rfl⟩
theorem dput_keys {kvs : List (D × D)} {k v : D} (h : ¬ dhas kvs k = true) : (dput kvs k v).map (·.1) = kvs.map (·.1) ++ [k] := by rw [dput_new h]; simp
theorem not_has {kvs : List (D × D)} {k : D} (ex : ∀ p ∈ kvs, p.1.ex = true) (hk : k.ex = true) (h : k ∉ kvs.map (·.1)) : ¬ dhas kvs k = true := by
  intro z
  unfold dhas at z
  rw [List.any_eq_true] at z
  obtain ⟨p, hp, e⟩ := z
  exact h (List.mem_map.mpr ⟨p, hp, (eqv_ex (ex p hp) hk).mp e⟩)
theorem take_notin {xs : List D} (nd : xs.Pairwise fun a b => a ≠ b) {i : Nat} (hi : i < xs.length) : xs[i] ∉ xs.take i := by
  intro h
  obtain ⟨j, hj, e⟩ := List.mem_iff_getElem.mp h
  rw [List.length_take] at hj
  rw [List.getElem_take] at e
  exact List.pairwise_iff_getElem.mp nd j i (by omega) hi (by omega) e
end L3
end
section
set_option autoImplicit false
set_option linter.all false
set_option maxRecDepth 100000
/-! L3: joining the tables' promises -/
namespace L3
open PySem (Addr Str PyData NestedKey)

theorem told_sm {d : D} (h : d.sm = true) (h1 : d.bk ≤ 200000) (h2 : d.dp ≤ 40) : Told d.py := by
  obtain ⟨a, b⟩ := sm_show h
  refine ⟨a, ?_, by rw [dp_py h]; exact h2⟩
  refine Nat.le_trans (PyData.shown_le_bulk 64 (by decide) _ b) ?_
  rw [bk_py h]
  show (64 + 2) * d.bk + 64 ≤ 2 ^ 24
  omega
theorem mset_eta {M : Mp} {a : Addr} {o : MO} (h : M a = some o) : mset M a o = M := by
  funext c
  by_cases e : c = a
  · subst e; rw [mset_same, h]
  · rw [mset_ne e]
theorem unlk_D {M : Mp} {a : Addr} {kvs : List (D × D)} (h : M a = some (.dct kvs)) : unlk a (mset M a (.lck kvs)) = M := by
  unfold unlk
  rw [mset_same]
  show mset (mset M a (.lck kvs)) a (.dct kvs) = M
  rw [mset_mset, mset_eta h]
theorem unlk_T {M : Mp} {a : Addr} {kvs : List (D × D)} (h : M a = some (.dcT kvs)) : unlk a (mset M a (.lkT kvs)) = M := by
  unfold unlk
  rw [mset_same]
  show mset (mset M a (.lkT kvs)) a (.dcT kvs) = M
  rw [mset_mset, mset_eta h]
/-- a comprehension over a dict's keys that changes nothing -/
theorem comp_T {M : Mp} {a : Addr} {kvs : List (D × D)} {body : D → Mp → (Option D → Mp → Prop) → Prop} {Q : (Mp → Mp) → Mp → List D → Prop} (h : M a = some (.dcT kvs)) (g : D → Option D) (hl : kvs.length ≤ 100000)
    (hb : ∀ x ∈ kvs.map (·.1), ∀ kk : Option D → Mp → Prop, kk (g x) (mset M a (.lkT kvs)) → body x (mset M a (.lkT kvs)) kk) (q : Q (unlk a) (mset M a (.lkT kvs)) ((kvs.map (·.1)).filterMap g)) :
    wpIt .plain [.ref a] M fun xs G M2 fin => compL body G xs [] M2 fun acc M5 => Q fin M5 acc := by
  refine (w_itT h).mpr ?_
  refine compL_pure g mset_same hb (by rw [List.length_map]; show 0 + _ ≤ 2 ^ 24; omega) ?_
  exact q
theorem comp_D {M : Mp} {a : Addr} {kvs : List (D × D)} {body : D → Mp → (Option D → Mp → Prop) → Prop} {Q : (Mp → Mp) → Mp → List D → Prop} (h : M a = some (.dct kvs)) (g : D → Option D) (hl : kvs.length ≤ 100000)
    (hb : ∀ x ∈ kvs.map (·.1), ∀ kk : Option D → Mp → Prop, kk (g x) (mset M a (.lck kvs)) → body x (mset M a (.lck kvs)) kk) (q : Q (unlk a) (mset M a (.lck kvs)) ((kvs.map (·.1)).filterMap g)) :
    wpIt .plain [.ref a] M fun xs G M2 fin => compL body G xs [] M2 fun acc M5 => Q fin M5 acc := by
  refine (w_itD h).mpr ?_
  refine compL_pure g mset_same hb (by rw [List.length_map]; show 0 + _ ≤ 2 ^ 24; omega) ?_
  exact q
/-! the promises among the far references -/
def isPr (x : D) : Option D := if hdS x = "promise" then some x else none
theorem isPr_t : ∀ os : List Int, (farW true os).filterMap isPr = []
  | [] => rfl
  | v :: os => by
    have h := isPr_t os
    unfold farW at h ⊢
    rw [List.flatMap_cons, List.filterMap_append, h]
    rfl
theorem isPr_f : ∀ os : List Int, (farW false os).filterMap isPr = farW false os
  | [] => rfl
  | v :: os => by
    have h := isPr_f os
    unfold farW at h ⊢
    rw [List.flatMap_cons, List.filterMap_append, h]
    rfl
theorem pr_of {l : List D} {v : Int} (h0 : 1 ≤ v) (h1 : v ≤ 4) (h : l.Perm (farD (oth v))) : (l.filterMap isPr).length = 6 ∧ ∀ x ∈ l.filterMap isPr, ∃ w n : Int, x = rf false w n ∧ w.natAbs ≤ 1000000 ∧ n.natAbs ≤ 1000000 := by
  refine ⟨?_, fun x hx => ?_⟩
  · rw [(h.filterMap isPr).length_eq]
    unfold farD
    rw [List.filterMap_append, isPr_t, isPr_f, List.nil_append, farW_len, oth_len h0 h1]
  · obtain ⟨y, hy, e⟩ := List.mem_filterMap.mp hx
    obtain ⟨o, w, n, rfl, _, w0, w1, n0, n1⟩ := farD_mem (h.mem_iff.mp hy)
    cases o with
    | true => cases e
    | false =>
      have e : some (rf false w n) = some x := e
      cases e
      exact ⟨w, n, rfl, by omega, by omega⟩
/-! the same walk of promises in two tables -/
theorem rsF_congr {S S' : Tb} (h1 : S.vat = S'.vat) (h2 : S.promises = S'.promises) (h3 : S.known = S'.known) : ∀ (k : Nat) (met : List D) (v : D), rsF S k met v = rsF S' k met v := by
  have r : ∀ v, recF S v = recF S' v := fun v => by unfold recF; rw [h1, h2, h3]
  have f : ∀ v, farF S v = farF S' v := fun v => by unfold farF; rw [h1]
  intro k
  induction k with
  | zero => intros; rfl
  | succ k ih => intro met v; rw [rsF, rsF, r, f, ih]
theorem rs_sm {R : D → Prop} {V K : Nat} {S : Tb} (ok : RsOk R V K S) (hV : V ≤ 2 ^ 20) (hK : K ≤ 39) : ∀ (k : Nat) (met : List D) (v : D), Val R v → rsF S k met v = .non ∨ (rsF S k met v).sm = true ∧ (rsF S k met v).bk ≤ 200 ∧ (rsF S k met v).dp ≤ 8 := by
  intro k
  induction k with
  | zero => intros; exact .inl rfl
  | succ k ih =>
    intro met v hv
    have sv := hv.sm
    obtain ⟨x, ds, ev, hx⟩ := val_hd hv
    have h0 : hdS v = x := by rw [ev]; rfl
    have two : ∀ a b : D, a.sm = true → b.sm = true → a.bk ≤ 150 → b.bk ≤ 40 → a.dp ≤ 7 → b.dp ≤ 7 → (D.tup [a, b]).sm = true ∧ (D.tup [a, b]).bk ≤ 200 ∧ (D.tup [a, b]).dp ≤ 8 := fun a b h1 h2 h3 h4 h5 h6 => by
      refine ⟨smt (smc h1 (smc h2 smn)), ?_, ?_⟩
      · show a.bk + 1 + (b.bk + 1 + 0) ≤ 200; omega
      · show max a.dp (max b.dp 0) + 1 ≤ 8; omega
    rw [rsF]
    split
    · rename_i e
      rw [h0] at e
      obtain ⟨w, n, ew, hw, hn, _⟩ := hx e
      have rk := rec_ok (w := w) (n := n) ok
      rw [← ew] at rk
      have rs := rk.sm hV hK
      split
      · exact .inr (two _ _ rfl rfl (Nat.le_of_ble_eq_true rfl) (Nat.le_of_ble_eq_true rfl) (Nat.le_of_ble_eq_true rfl) (Nat.le_of_ble_eq_true rfl))
      · split
        · exact .inr (two _ _ rs.1 rfl (by omega) (Nat.zero_le _) (by omega) (Nat.zero_le _))
        · split
          · rename_i ef
            obtain ⟨z, ez, hz⟩ := rec_ful rk ef
            rw [ez]
            exact ih _ _ hz
          · refine .inr ?_
            have krv : KR (rf false w n) := ⟨false, w, n, rfl, hw, hn⟩
            have : farF S v = .non ∨ farF S v = v := by
              rw [ew]; unfold farF rf; simp only; split
              · exact .inl rfl
              · exact .inr rfl
            rcases this with e | e
            · rw [e]; exact two _ _ rfl rfl (Nat.le_of_ble_eq_true rfl) (Nat.zero_le _) (Nat.le_of_ble_eq_true rfl) (Nat.zero_le _)
            · rw [e, ew]; exact two _ _ rfl krv.sm.1 (Nat.le_of_ble_eq_true rfl) (by have := krv.sm.2.2.1; omega) (Nat.le_of_ble_eq_true rfl) (by have := krv.sm.2.2.2.1; omega)
    · refine .inr ?_
      unfold rsEnd
      have in1 : ∀ y : Str, (D.str y).sm = true → y.cps.size ≤ 10 → (D.tup [.str y, v]).sm = true ∧ (D.tup [.str y, v]).bk ≤ 150 ∧ (D.tup [.str y, v]).dp ≤ 7 := fun y h1 h2 => by
        refine ⟨smt (smc h1 (smc sv.1 smn)), ?_, ?_⟩
        · show y.cps.size + 1 + (v.bk + 1 + 0) ≤ 150; omega
        · show max 0 (max v.dp 0) + 1 ≤ 7; omega
      split
      · obtain ⟨a, b, c⟩ := in1 "object" rfl (Nat.le_of_ble_eq_true rfl)
        exact two _ _ a rfl b (Nat.zero_le _) c (Nat.zero_le _)
      · obtain ⟨a, b, c⟩ := in1 "data" rfl (Nat.le_of_ble_eq_true rfl)
        exact two _ _ a rfl b (Nat.zero_le _) c (Nat.zero_le _)
/-! what is drawn can be told and loaded -/
theorem DOk.kodT {V : D → Prop} {n : Nat} {kvs : List (D × D)} (h : DOk KR V n kvs) (hn : n ≤ 100000) : KOD D.hkT kvs := ⟨fun p hp => ⟨(h.all p hp).1.sm.2.2.2.2, (h.all p hp).1.sm.2.1⟩, h.nd, Nat.le_trans h.len hn⟩
theorem DOk.kodP {V : D → Prop} {n : Nat} {kvs : List (D × D)} (h : DOk KP V n kvs) (hn : n ≤ 100000) : KOD D.hkT kvs := ⟨fun p hp => ⟨(h.all p hp).1.sm.2.2.2.2, (h.all p hp).1.sm.2.1⟩, h.nd, Nat.le_trans h.len hn⟩
theorem DOk.kodI {V : D → Prop} {n : Nat} {kvs : List (D × D)} (h : DOk KI V n kvs) (hn : n ≤ 100000) : KOD D.hk1 kvs := ⟨fun p hp => ⟨(h.all p hp).1.sm.2.2.2.2, (h.all p hp).1.sm.2.1⟩, h.nd, Nat.le_trans h.len hn⟩
theorem KOD.nil {hk : D → Bool} : KOD hk [] := ⟨fun _ h => absurd h List.not_mem_nil, .nil, Nat.zero_le _⟩
theorem rows_nil {n : Nat} : LOk n [] := ⟨rfl, Nat.zero_le _, Nat.zero_le _⟩
/-- tables with the drawn kinds of entries, all others empty -/
structure Tb0 (R : D → Prop) (V K n : Nat) (S : Tb) : Prop where
  objects : DOk KI (Thing R) n S.objects
  promises : DOk KI (Rec R V K) n S.promises
  answers : DOk KP (Ans R V K) n S.answers
  lent : DOk KR (Wt V K) n S.lent
  held : DOk KR (Wt V K) n S.held
  known : DOk KR (Stl R) n S.known
theorem Sm.of {n : Nat} {d : D} (h : d.sm = true ∧ d.bk ≤ n ∧ d.dp ≤ 5) : Sm n d := ⟨h.1, h.2.1, by have := h.2.2; omega⟩
section
variable {R : D → Prop} {V K n m : Nat} {S : Tb}
theorem Tb0.told (h : Tb0 R V K n S) (hV : V ≤ 2 ^ 20) (hK : K ≤ 39) (he : S.made.natAbs ≤ 1000000 ∧ S.sent.natAbs ≤ 1000000 ∧ S.asked.natAbs ≤ 1000000) (h1 : S.hoped = []) (h2 : S.places = []) (h3 : S.arrived = []) (h4 : S.pins = []) (hr : ∀ l ∈ S.ls1, LOk ((230 + 15) * n) l) : TOk n 230 S where
  made := he.1
  sent := he.2.1
  asked := he.2.2
  objects := h.objects.mono (fun _ h => Sm.of h.sm) (Nat.le_refl _)
  promises := h.promises.mono (fun _ h => (Sm.of (n := 110) (let a := h.sm hV hK; ⟨a.1, a.2.1, by have := a.2.2; omega⟩)).mono (by decide)) (Nat.le_refl _)
  answers := h.answers.mono (fun _ h => (Sm.of (h.sm hV hK)).mono (by decide)) (Nat.le_refl _)
  lent := h.lent.mono (fun _ h => (Sm.of (n := 2) (let a := h.sm hV hK; ⟨a.1, a.2.1, by have := a.2.2; omega⟩)).mono (by decide)) (Nat.le_refl _)
  held := h.held.mono (fun _ h => (Sm.of (n := 2) (let a := h.sm hV hK; ⟨a.1, a.2.1, by have := a.2.2; omega⟩)).mono (by decide)) (Nat.le_refl _)
  known := h.known.mono (fun _ h => (Sm.of (n := 110) (let a := h.sm; ⟨a.1, a.2.1, by have := a.2.2; omega⟩)).mono (by decide)) (Nat.le_refl _)
  hoped := by rw [h1]; exact DOk.nil
  places := by rw [h2]; exact DOk.nil
  arrived := by rw [h3]; exact DOk.nil
  pins := by rw [h4]; exact DOk.nil
  rows := hr
theorem Tb0.load (h : Tb0 R V K n S) (hn : n ≤ 100000) (h1 : S.hoped = []) (h2 : S.places = []) (h3 : S.arrived = []) (h4 : S.pins = []) (hq : S.queue = [] ∧ S.parked = [] ∧ S.early = [] ∧ S.waiting = [] ∧ S.listeners = [] ∧ S.transfers = []) : LoadOk S where
  objects := h.objects.kodI hn
  promises := h.promises.kodI hn
  answers := h.answers.kodP hn
  lent := h.lent.kodT hn
  held := h.held.kodT hn
  known := h.known.kodT hn
  hoped := by rw [h1]; exact KOD.nil
  places := by rw [h2]; exact KOD.nil
  arrived := by rw [h3]; exact KOD.nil
  pins := by rw [h4]; exact KOD.nil
  queue := by rw [hq.1]; exact Nat.zero_le _
  parked := by rw [hq.2.1]; exact Nat.zero_le _
  early := by rw [hq.2.2.1]; exact Nat.zero_le _
  waiting := by rw [hq.2.2.2.1]; exact Nat.zero_le _
  listeners := by rw [hq.2.2.2.2.1]; exact Nat.zero_le _
  transfers := by rw [hq.2.2.2.2.2]; exact Nat.zero_le _
end
theorem Tbl.tb0 {S : Tb} (h : Tbl S) : Tb0 (Rg S.vat) 17 4 12 S := ⟨h.objects.mono (fun _ h => h) (by decide), h.promises.mono (fun _ h => h) (by decide), h.answers.mono (fun _ h => h) (by decide), h.lent.mono (fun _ h => h) (by decide), h.held, h.known⟩
end L3
namespace L3
open PySem (Addr Str PyData NestedKey)
/-- what is not drawn is empty -/
structure Emp (S : Tb) : Prop where
  made : S.made = 0
  sent : S.sent = 0
  asked : S.asked = 0
  hoped : S.hoped = []
  places : S.places = []
  arrived : S.arrived = []
  pins : S.pins = []
  queue : S.queue = []
  parked : S.parked = []
  early : S.early = []
  waiting : S.waiting = []
  listeners : S.listeners = []
  transfers : S.transfers = []
  out : S.out = []
  log : S.log = []
  order : S.order = []
theorem Tbl.emp {S : Tb} (h : Tbl S) : Emp S := ⟨congrArg Tb.made h.rest, congrArg Tb.sent h.rest, congrArg Tb.asked h.rest, congrArg Tb.hoped h.rest, congrArg Tb.places h.rest, congrArg Tb.arrived h.rest, congrArg Tb.pins h.rest, congrArg Tb.queue h.rest, congrArg Tb.parked h.rest, congrArg Tb.early h.rest, congrArg Tb.waiting h.rest, congrArg Tb.listeners h.rest, congrArg Tb.transfers h.rest, congrArg Tb.out h.rest, congrArg Tb.log h.rest, congrArg Tb.order h.rest⟩
theorem Emp.rows {S : Tb} (h : Emp S) {n : Nat} : ∀ l ∈ S.ls1, LOk n l := by
  intro l hl
  unfold Tb.ls1 at hl
  rw [h.queue, h.parked, h.early, h.waiting, h.listeners, h.transfers, h.out, h.log, h.order] at hl
  simp only [List.mem_cons, List.not_mem_nil, or_false, or_self] at hl
  subst hl
  exact rows_nil
theorem Tb0.emp {R : D → Prop} {V K n : Nat} {S : Tb} (h : Tb0 R V K n S) (e : Emp S) (hV : V ≤ 2 ^ 20) (hK : K ≤ 39) : TOk n 230 S :=
  h.told hV hK ⟨by rw [e.made]; decide, by rw [e.sent]; decide, by rw [e.asked]; decide⟩ e.hoped e.places e.arrived e.pins e.rows
theorem Tb0.lok {R : D → Prop} {V K n : Nat} {S : Tb} (h : Tb0 R V K n S) (e : Emp S) (hn : n ≤ 100000) : LoadOk S :=
  h.load hn e.hoped e.places e.arrived e.pins ⟨e.queue, e.parked, e.early, e.waiting, e.listeners, e.transfers⟩
theorem Emp.loaded {S : Tb} (e : Emp S) (g : D) : Emp (loaded g S) := ⟨rfl, rfl, rfl, e.hoped, e.places, e.arrived, e.pins, e.queue, e.parked, e.early, e.waiting, e.listeners, e.transfers, rfl, rfl, rfl⟩
theorem Tb0.loaded {R : D → Prop} {V K n : Nat} {S : Tb} (h : Tb0 R V K n S) (g : D) : Tb0 R V K n (loaded g S) := ⟨h.objects, h.promises, h.answers, h.lent, h.held, h.known⟩
/-- what is told of loaded tables is what is told of the law's own -/
theorem Emp.same {S : Tb} (e : Emp S) (g : D) : toldPy (L3.loaded g S) = toldPy (dueOf S) := by
  unfold toldPy Tb.ds1 Tb.ls1 L3.loaded dueOf
  simp only [e.made, e.sent, e.asked, e.out, e.log, T0, List.length_nil, List.replicate_zero]
theorem SB.frO {O : Addr → Prop} {M M1 : Mp} {b d s : Addr} {ls : Fl → Addr} {S : Tb} (h : SB M b d s ls S) (f : Fr O M M1) (nb : ¬ O b) (nd : ¬ O d) (ns : ∀ a, O a → OS s ls a → False) : SB M1 b d s ls S := ⟨h.bx.fr f nb nd, h.ss.fr f ns, h.nb, h.nd⟩
/-- new tables lie apart -/
theorem new_apart {M' M5 : Mp} {p : Addr} {lt : Fl → Addr} {o : MO} (hp : M' p = none) (hlt : ∀ i, (mset M' p o) (lt i) = none) : ∀ a, OT p lt a → M' a = none := by
  rintro a (rfl | ⟨i, rfl⟩)
  · exact hp
  · have h := hlt i
    by_cases e : lt i = p
    · rw [e, mset_same] at h; cases h
    · rwa [mset_ne e] at h
end L3
end
section
set_option autoImplicit false
set_option linter.all false
set_option maxRecDepth 100000
/-! L3: promises of the tables' defs: records -/
namespace L3
open PySem (Addr Str PyData NestedKey)

def zeroD : D := .tup [.int 0, .int 0]
/-- what is sent back of a record that is left behind -/
def relE : D → List D
  | .tup [.str x, a, b, c] => if x = "forwarded" then [.tup [a, .tup [.str "release_answer", b, c]]] else []
  | _ => []
def aK (v q : Int) : D := .tup [.int v, .int q]
def dropF (S : Tb) (v q : Int) : Tb := match dget S.answers (aK v q) with
  | some (.tup [_, r, l]) => if l.eqv zeroD = true then { S with answers := ddel S.answers (aK v q), out := S.out ++ relE r } else S
  | _ => S
/-- the key of a record: of a promise, of an answer -/
def pKey (k : Int) : D := .tup [.str "promise", .int k]
def aKey (v q : Int) : D := .tup [.str "answer", .int v, .int q]
def recAt (S : Tb) : D → D
  | .tup [_, .int k] => (dget S.promises (.int k)).getD pend
  | .tup [_, .int v, .int q] => (match dget S.answers (aK v q) with
    | some (.tup [_, r, _]) => r
    | _ => .non)
  | _ => .non
def putRec (S : Tb) (key r : D) : Tb := match key with
  | .tup [_, .int k] => { S with promises := dput S.promises (.int k) r }
  | .tup [_, .int v, .int q] => (match dget S.answers (aK v q) with
    | some (.tup [s, _, l]) => { S with answers := dput S.answers (aK v q) (.tup [s, r, l]) }
    | _ => S)
  | _ => S
def setRec (S : Tb) (key r : D) : Tb := if hdS r = "fulfilled" ∨ hdS r = "broken" then { putRec S key r with out := S.out ++ relE (recAt S key) } else putRec S key r
/-- a key at which a record stands -/
def KeyOk (R : D → Prop) (V K : Nat) (S : Tb) (key : D) : Prop := (∃ k : Int, key = pKey k ∧ k.natAbs ≤ 1000000) ∨ ∃ (v q : Int) (a : D), key = aKey v q ∧ v.natAbs ≤ 1000000 ∧ q.natAbs ≤ 1000000 ∧ dget S.answers (aK v q) = some a ∧ Ans R V K a
theorem aK_hkT {v q : Int} (h1 : v.natAbs ≤ 1000000) (h2 : q.natAbs ≤ 1000000) : (aK v q).hkT = true := (KP.sm ⟨v, q, rfl, h1, h2⟩).2.2.2.2
/-- one more thing goes out -/
theorem TT.out {M : Mp} {t : Addr} {lt : Fl → Addr} {S : Tb} (h : TT M t lt S) {x : List D} : Fr (OT t lt) M (mset M (lt .out) (.lst x)) := Fr.set (.inr ⟨.out, rfl⟩)
def sp_put_out : L3.Spec := fun xs M Q _ => ∃ (t : Addr) (lt : Fl → Addr) (S : Tb) (r c : D), xs = [.ref t, r, c] ∧ TT M t lt S ∧ S.out.length ≤ 100000 ∧ ∀ M', TT M' t lt { S with out := S.out ++ [.tup [r, c]] } → Fr (OT t lt) M M' → Q .non M'
def sp_return_answer : L3.Spec := fun xs M Q _ => ∃ (t : Addr) (lt : Fl → Addr) (S : Tb) (R : D → Prop) (V K : Nat) (r : D), xs = [.ref t, r] ∧ TT M t lt S ∧ S.out.length ≤ 100000 ∧ Rec R V K r ∧ ∀ M', TT M' t lt { S with out := S.out ++ relE r } → Fr (OT t lt) M M' → Q .non M'
def sp_drop_answer : L3.Spec := fun xs M Q _ => ∃ (t : Addr) (lt : Fl → Addr) (S : Tb) (R : D → Prop) (V K n : Nat) (v q : Int), xs = [.ref t, .int v, .int q] ∧ TT M t lt S ∧ S.out.length ≤ 100000 ∧ DOk KP (Ans R V K) n S.answers ∧ (V ≤ 2 ^ 20 ∧ K ≤ 39) ∧ (v.natAbs ≤ 1000000 ∧ q.natAbs ≤ 1000000) ∧ ∀ M', TT M' t lt (dropF S v q) → Fr (OT t lt) M M' → Q .non M'
def sp_record_at : L3.Spec := fun xs M Q _ => ∃ (t : Addr) (lt : Fl → Addr) (S : Tb) (R : D → Prop) (V K : Nat) (key : D), xs = [.ref t, key] ∧ TT M t lt S ∧ KeyOk R V K S key ∧ Q (recAt S key) M
def sp_put_record : L3.Spec := fun xs M Q _ => ∃ (t : Addr) (lt : Fl → Addr) (S : Tb) (R : D → Prop) (V K : Nat) (key r : D), xs = [.ref t, key, r] ∧ TT M t lt S ∧ KeyOk R V K S key ∧ (S.promises.length ≤ 100000 ∧ S.answers.length ≤ 100000) ∧ ∀ M', TT M' t lt (putRec S key r) → Fr (OT t lt) M M' → Q .non M'
def sp_set_record : L3.Spec := fun xs M Q _ => ∃ (t : Addr) (lt : Fl → Addr) (S : Tb) (R : D → Prop) (V K : Nat) (key r : D), xs = [.ref t, key, r] ∧ TT M t lt S ∧ KeyOk R V K S key ∧ Rec R V K (recAt S key) ∧ Rec R V K r ∧ S.out.length ≤ 100000 ∧ (S.promises.length ≤ 100000 ∧ S.answers.length ≤ 100000) ∧ ∀ M', TT M' t lt (setRec S key r) → Fr (OT t lt) M M' → Q .non M'
theorem ln_put_out {xs : List D} {M : Mp} {Q X : Post} (h : sp_put_out xs M Q X) : xs.length = 3 := by obtain ⟨_, _, _, _, _, rfl, _⟩ := h; rfl
theorem ln_return_answer {xs : List D} {M : Mp} {Q X : Post} (h : sp_return_answer xs M Q X) : xs.length = 2 := by obtain ⟨_, _, _, _, _, _, _, rfl, _⟩ := h; rfl
theorem ln_drop_answer {xs : List D} {M : Mp} {Q X : Post} (h : sp_drop_answer xs M Q X) : xs.length = 3 := by obtain ⟨_, _, _, _, _, _, _, _, _, rfl, _⟩ := h; rfl
theorem ln_record_at {xs : List D} {M : Mp} {Q X : Post} (h : sp_record_at xs M Q X) : xs.length = 2 := by obtain ⟨_, _, _, _, _, _, _, rfl, _⟩ := h; rfl
theorem ln_put_record {xs : List D} {M : Mp} {Q X : Post} (h : sp_put_record xs M Q X) : xs.length = 3 := by obtain ⟨_, _, _, _, _, _, _, _, rfl, _⟩ := h; rfl
theorem ln_set_record {xs : List D} {M : Mp} {Q X : Post} (h : sp_set_record xs M Q X) : xs.length = 3 := by obtain ⟨_, _, _, _, _, _, _, _, rfl, _⟩ := h; rfl
theorem len100 {n : Nat} (h : n ≤ 100000) : n < PySem.sizeLine := Nat.lt_of_le_of_lt h (by show 100000 < 2 ^ 24; decide)
end L3
namespace L3
open PySem (Addr Str PyData NestedKey)
theorem wpEq_tt {a b : List D} {M : Mp} {k : Bool → Prop} (ha : (D.tup a).sm = true ∧ (D.tup a).dp ≤ 8 ∧ (D.tup a).ex = true) (hb : (D.tup b).sm = true ∧ (D.tup b).dp ≤ 8 ∧ (D.tup b).ex = true) (h1 : D.tup a = D.tup b → k true) (h2 : D.tup a ≠ D.tup b → k false) : wpEq (.tup a) (.tup b) M k := by
  refine ⟨⟨sm_flat ha.1 ha.2.1, sm_flat hb.1 hb.2.1⟩, ?_⟩
  show k ((D.tup a).eqv (.tup b))
  cases e : (D.tup a).eqv (.tup b) with
  | true => exact h1 ((eqv_ex ha.2.2 hb.2.2).mp e)
  | false => exact h2 fun z => by rw [(eqv_ex ha.2.2 hb.2.2).mpr z] at e; cases e
theorem pr_eq {V K : Nat} {w : W} (h : WOk V K w) (hV : V ≤ 2 ^ 20) (hK : K ≤ 39) : (pr w).sm = true ∧ (pr w).dp ≤ 8 ∧ (pr w).ex = true := ⟨pr_sm h hV hK, by show 1 ≤ 8; decide, rfl⟩
theorem zeroD_eq : zeroD.sm = true ∧ zeroD.dp ≤ 8 ∧ zeroD.ex = true := ⟨rfl, Nat.le_of_ble_eq_true rfl, rfl⟩
theorem cut1_p (k : Int) : cut [D.str "promise", .int k] (.int 1) .non = [.int k] := rfl
theorem cut1_a (v q : Int) : cut [D.str "answer", .int v, .int q] (.int 1) .non = [.int v, .int q] := rfl
end L3
namespace L3
open PySem (Addr Str PyData NestedKey)
/-! ### the program's tables and the law's own hold the same -/
structure Same (T S : Tb) : Prop where
  vat : T.vat = S.vat
  made : T.made = S.made
  sent : T.sent = S.sent
  asked : T.asked = S.asked
  objects : T.objects = S.objects
  promises : T.promises = S.promises
  answers : T.answers = S.answers
  lent : T.lent = S.lent
  held : T.held = S.held
  known : T.known = S.known
  hoped : T.hoped = S.hoped
  places : T.places = S.places
  arrived : T.arrived = S.arrived
  pins : T.pins = S.pins
  queue : T.queue = S.queue
  parked : T.parked = S.parked
  early : T.early = S.early
  waiting : T.waiting = S.waiting
  listeners : T.listeners = S.listeners
  transfers : T.transfers = S.transfers
  out : T.out = S.out
  log : T.log = S.log
  order : T.order = List.replicate S.log.length (.int S.vat)
theorem Same.told {T S : Tb} (h : Same T S) : toldPy T = toldPy (dueOf S) := by
  unfold toldPy Tb.ds1 Tb.ls1 dueOf
  simp only [h.made, h.sent, h.asked, h.objects, h.promises, h.answers, h.lent, h.held, h.known, h.hoped, h.places, h.arrived, h.pins, h.queue, h.parked, h.early, h.waiting, h.listeners, h.transfers, h.out, h.log, h.order]
theorem Emp.ld {S : Tb} (e : Emp S) (g : D) : Same (L3.loaded g S) S := by
  refine ⟨rfl, e.made.symm, e.sent.symm, e.asked.symm, rfl, rfl, rfl, rfl, rfl, rfl, rfl, rfl, rfl, rfl, rfl, rfl, rfl, rfl, rfl, rfl, e.out.symm, e.log.symm, ?_⟩
  rw [e.log]; rfl
theorem Same.tok {T S : Tb} {n m : Nat} (h : Same T S) (k : TOk n m (dueOf S)) : TOk n m T := by
  refine ⟨h.made ▸ k.made, h.sent ▸ k.sent, h.asked ▸ k.asked, h.objects ▸ k.objects, h.promises ▸ k.promises, h.answers ▸ k.answers, h.lent ▸ k.lent, h.held ▸ k.held, h.known ▸ k.known, h.hoped ▸ k.hoped, h.places ▸ k.places, h.arrived ▸ k.arrived, h.pins ▸ k.pins, ?_⟩
  have : T.ls1 = (dueOf S).ls1 := by
    unfold Tb.ls1 dueOf
    simp only [h.queue, h.parked, h.early, h.waiting, h.listeners, h.transfers, h.out, h.log, h.order]
  rw [this]; exact k.rows
theorem TOk.of_due {S : Tb} {n m : Nat} (k : TOk n m (dueOf S)) (h : LOk ((m + 15) * n) S.order) : TOk n m S := by
  refine ⟨k.made, k.sent, k.asked, k.objects, k.promises, k.answers, k.lent, k.held, k.known, k.hoped, k.places, k.arrived, k.pins, fun l hl => ?_⟩
  unfold Tb.ls1 at hl
  simp only [List.mem_cons, List.not_mem_nil, or_false] at hl
  rcases hl with hl | hl | hl | hl | hl | hl | hl | hl | hl
  · exact k.rows l (by rw [hl]; simp [Tb.ls1, dueOf])
  · exact k.rows l (by rw [hl]; simp [Tb.ls1, dueOf])
  · exact k.rows l (by rw [hl]; simp [Tb.ls1, dueOf])
  · exact k.rows l (by rw [hl]; simp [Tb.ls1, dueOf])
  · exact k.rows l (by rw [hl]; simp [Tb.ls1, dueOf])
  · exact k.rows l (by rw [hl]; simp [Tb.ls1, dueOf])
  · exact k.rows l (by rw [hl]; simp [Tb.ls1, dueOf])
  · exact k.rows l (by rw [hl]; simp [Tb.ls1, dueOf])
  · rw [hl]; exact h
theorem Same.drop {T S : Tb} (h : Same T S) (v q : Int) : Same (dropF T v q) (dropF S v q) := by
  unfold dropF
  rw [h.answers]
  split
  · split
    · exact { h with answers := rfl, out := by show T.out ++ _ = S.out ++ _; rw [h.out] }
    · exact h
  · exact h
theorem relE_sm {R : D → Prop} {V K : Nat} {r : D} (h : Rec R V K r) (hV : V ≤ 2 ^ 20) (hK : K ≤ 39) : (∀ d ∈ relE r, Sm 30 d) ∧ (relE r).length ≤ 1 := by
  rcases h with rfl | (⟨v, rfl, h⟩ | ⟨v, rfl, h⟩) | ⟨a, b, w, rfl, h1, h2, h3⟩
  · exact ⟨fun d hd => absurd hd List.not_mem_nil, Nat.zero_le _⟩
  · exact ⟨fun d hd => absurd hd List.not_mem_nil, Nat.zero_le _⟩
  · exact ⟨fun d hd => absurd hd List.not_mem_nil, Nat.zero_le _⟩
  · have e : relE (.tup [.str "forwarded", .int a, .int b, pr w]) = [.tup [.int a, .tup [.str "release_answer", .int b, pr w]]] := rfl
    rw [e]
    refine ⟨fun d hd => ?_, Nat.le_refl _⟩
    rw [List.mem_singleton] at hd
    subst hd
    refine ⟨smt (smc (int_sm h1) (smc (smt (smc rfl (smc (int_sm h2) (smc (pr_sm h3 hV hK) smn)))) smn)), ?_, ?_⟩
    · show 0 + 1 + ((14 + 1 + (0 + 1 + (2 + 1 + 0))) + 1 + 0) ≤ 30; decide
    · exact Nat.le_of_ble_eq_true rfl
end L3
end
section
set_option autoImplicit false
set_option linter.all false
set_option maxRecDepth 100000
/-! L3: records are set in both tables -/
namespace L3
open PySem (Addr Str PyData NestedKey)
section
variable {T S : Tb} {R : D → Prop} {V K : Nat} {key r : D}
theorem Same.recs (h : Same T S) : recAt T key = recAt S key := by
  unfold recAt
  rw [h.promises, h.answers]
theorem Same.putRec (h : Same T S) (hk : KeyOk R V K S key) : Same (L3.putRec T key r) (L3.putRec S key r) := by
  rcases hk with ⟨k, rfl, _⟩ | ⟨v, qn, a, rfl, _, _, ha, i, j, r', w, rfl, _⟩
  · exact { h with promises := by show dput T.promises _ _ = dput S.promises _ _; rw [h.promises] }
  · have ha' : dget T.answers (aK v qn) = some (.tup [.tup [.int i, .int j], r', pr w]) := by rw [h.answers]; exact ha
    unfold L3.putRec aKey
    simp only [ha, ha']
    exact { h with answers := by show dput T.answers _ _ = dput S.answers _ _; rw [h.answers] }
theorem putRec_out (hk : KeyOk R V K S key) : (putRec S key r).out = S.out := by
  rcases hk with ⟨k, rfl, _⟩ | ⟨v, qn, a, rfl, _, _, ha, i, j, r', w, rfl, _⟩
  · rfl
  · unfold putRec aKey; simp only [ha]
theorem Same.setRec (h : Same T S) (hk : KeyOk R V K S key) : Same (L3.setRec T key r) (L3.setRec S key r) := by
  have p := h.putRec (r := r) hk
  unfold L3.setRec
  split
  · exact { p with out := by show T.out ++ _ = S.out ++ _; rw [h.out, h.recs] }
  · exact p
theorem KeyOk.same (h : Same T S) (hk : KeyOk R V K S key) : KeyOk R V K T key := by
  rcases hk with h1 | ⟨v, qn, a, e, h1, h2, h3, h4⟩
  · exact .inl h1
  · exact .inr ⟨v, qn, a, e, h1, h2, by rw [h.answers]; exact h3, h4⟩
theorem recAt_put (hk : KeyOk R V K S key) : recAt (putRec S key r) key = r := by
  rcases hk with ⟨k, rfl, _⟩ | ⟨v, qn, a, rfl, _, _, ha, i, j, r', w, rfl, _⟩
  · show (dget (dput S.promises (.int k) r) (.int k)).getD pend = r
    rw [dget_put (eqv_refl _)]; rfl
  · unfold putRec aKey
    simp only [ha]
    unfold recAt
    simp only [dget_put (eqv_refl (aK v qn))]
theorem recAt_set (hk : KeyOk R V K S key) : recAt (setRec S key r) key = r := by
  unfold setRec
  split
  · exact recAt_put (S := S) hk
  · exact recAt_put hk
theorem key_set (hk : KeyOk R V K S key) (hr : Rec R V K r) : KeyOk R V K (setRec S key r) key := by
  have p : KeyOk R V K (putRec S key r) key := by
    rcases hk with h1 | ⟨v, qn, a, rfl, h1, h2, ha, i, j, r', w, rfl, g1, g2, g3, g4⟩
    · exact .inl h1
    · refine .inr ⟨v, qn, .tup [.tup [.int i, .int j], r, pr w], rfl, h1, h2, ?_, i, j, r, w, rfl, g1, g2, hr, g4⟩
      unfold putRec aKey
      simp only [ha]
      exact dget_put (eqv_refl _)
  unfold setRec
  split
  · exact p
  · exact p
end
/-- a record stands at a key -/
theorem rec_at {R : D → Prop} {V K n : Nat} {S : Tb} {key : D} (hk : KeyOk R V K S key) (dp : DOk KI (Rec R V K) n S.promises) : Rec R V K (recAt S key) := by
  rcases hk with ⟨k, rfl, _⟩ | ⟨v, qn, a, rfl, _, _, ha, i, j, r', w, rfl, g1, g2, g3, g4⟩
  · show Rec R V K ((dget S.promises (.int k)).getD pend)
    cases e : dget S.promises (.int k) with
    | none => exact .inl rfl
    | some x => exact dp.get e
  · unfold recAt aKey
    simp only [ha]
    exact g3
def ansK : D → Option D
  | .tup [a, b] => some (.tup [.str "answer", a, b])
  | _ => none
end L3
namespace L3
open PySem (Addr Str PyData NestedKey)
theorem relE_no {x : Str} {ds : List D} (h : x ≠ "forwarded") : relE (.tup (.str x :: ds)) = [] := by
  unfold relE; split
  · rename_i e2; cases e2; rw [if_neg h]
  · rfl
theorem setRec_nil {R : D → Prop} {V K : Nat} {S : Tb} {key r : D} (hk : KeyOk R V K S key) (h : relE (recAt S key) = []) : setRec S key r = putRec S key r := by
  have o := putRec_out (r := r) hk
  unfold setRec
  split
  · rw [h, List.append_nil, ← o]
  · rfl
end L3
end
section
set_option Elab.async false
set_option linter.all false
set_option maxRecDepth 100000
set_option maxHeartbeats 0
/-! the data of law_k25_records_settle_once -/
namespace K25
open PySem L2 PyProof.Rows PySem.Spec L3
def top (i : Nat) : Stmt := PySem.Challenge.pw_vatlink_k25_records_settle_once.main.body.getD i (.Pass ⟨0, 0, 0, 0⟩)
def inC (s : Stmt) (j : Nat) : Stmt := match s with
  | .ClassDef (body := b) .. => b.getD j (.Pass ⟨0, 0, 0, 0⟩)
  | _ => .Pass ⟨0, 0, 0, 0⟩
def b__law_draw : Ss := (.cons (.set (.one 2) (.ix (.var 0) (.int 1))) (.cons (.setIx (.var 0) (.int 1) (.bin .add (.var 2) (.int 1))) (.cons (.ite (.val (.cmp .lt (.var 2) (.blt .len (.cons (.ix (.var 0) (.int 0)) .nil)))) (.cons (.ret (.bin .mod (.blt .int (.cons (.ix (.ix (.var 0) (.int 0)) (.var 2)) .nil)) (.var 1))) .nil) .nil) (.cons (.ret (.bin .mod (.blt .int (.cons (.bin .add (.bin .mul (.var 2) (.int 7)) (.int 3)) .nil)) (.var 1))) .nil))))
def p__law_draw : DefP := ⟨"_law_draw", none, top 11, ["_law_box", "_law_many", "_law_at"], ["_law_box", "_law_many"], b__law_draw⟩
def b__law_same : Ss := (.cons (.ret (.cmp .eq (.blt .repr (.cons (.var 0) .nil)) (.blt .repr (.cons (.var 1) .nil)))) .nil)
def p__law_same : DefP := ⟨"_law_same", none, top 12, ["_law_actual", "_law_due_here"], ["_law_actual", "_law_due_here"], b__law_same⟩
def b__law_due : Ss := (.cons (.set (.one 1) (.lst (.cons (.str "objects") (.cons (.str "promises") (.cons (.str "answers") (.cons (.str "lent") (.cons (.str "known") (.cons (.str "hoped") (.cons (.str "places") (.cons (.str "arrived") (.cons (.str "pins") .nil))))))))))) (.cons (.set (.one 2) (.bin .add (.lst (.cons (.lst (.cons (.ix (.var 0) (.str "made")) (.cons (.ix (.var 0) (.str "sent")) (.cons (.ix (.var 0) (.str "asked")) (.cons (.seq .list .items (.cons (.ix (.var 0) (.str "held")) .nil)) .nil))))) .nil)) (.comp [4] (.seq .sorted .items (.cons (.ix (.var 0) (.var 4)) .nil)) (.one 4) .plain (.cons (.var 1) .nil) .tt))) (.cons (.set (.one 3) (.lst (.cons (.str "queue") (.cons (.str "parked") (.cons (.str "early") (.cons (.str "waiting") (.cons (.str "listeners") (.cons (.str "transfers") (.cons (.str "out") (.cons (.str "log") .nil)))))))))) (.cons (.ret (.bin .add (.bin .add (.var 2) (.comp [4] (.ix (.var 0) (.var 4)) (.one 4) .plain (.cons (.var 3) .nil) .tt)) (.lst (.cons (.comp [5] (.ix (.var 0) (.str "vat")) (.one 5) .plain (.cons (.ix (.var 0) (.str "log")) .nil) .tt) .nil)))) .nil))))
def p__law_due : DefP := ⟨"_law_due", none, top 19, ["_law_s", "_law_dicts", "_law_rows", "_law_words", "_law_word", "_law_event"], ["_law_s"], b__law_due⟩
def b__law_told : Ss := (.cons (.set (.one 1) (.lst (.cons (.lst (.cons (.fld (.var 0) "made") (.cons (.fld (.var 0) "sent") (.cons (.fld (.var 0) "asked") (.cons (.seq .list .items (.cons (.fld (.var 0) "held") .nil)) .nil))))) (.cons (.seq .sorted .items (.cons (.fld (.var 0) "objects") .nil)) (.cons (.seq .sorted .items (.cons (.fld (.var 0) "promises") .nil)) .nil))))) (.cons (.set (.one 1) (.bin .add (.var 1) (.lst (.cons (.seq .sorted .items (.cons (.fld (.var 0) "answers") .nil)) (.cons (.seq .sorted .items (.cons (.fld (.var 0) "lent") .nil)) (.cons (.seq .sorted .items (.cons (.fld (.var 0) "known") .nil)) (.cons (.seq .sorted .items (.cons (.fld (.var 0) "hoped") .nil)) .nil))))))) (.cons (.set (.one 1) (.bin .add (.var 1) (.lst (.cons (.seq .sorted .items (.cons (.fld (.var 0) "places") .nil)) (.cons (.seq .sorted .items (.cons (.fld (.var 0) "arrived") .nil)) (.cons (.seq .sorted .items (.cons (.fld (.var 0) "pins") .nil)) .nil)))))) (.cons (.ret (.bin .add (.var 1) (.lst (.cons (.fld (.var 0) "queue") (.cons (.fld (.var 0) "parked") (.cons (.fld (.var 0) "early") (.cons (.fld (.var 0) "waiting") (.cons (.fld (.var 0) "listeners") (.cons (.fld (.var 0) "transfers") (.cons (.fld (.var 0) "out") (.cons (.fld (.var 0) "log") (.cons (.fld (.var 0) "order") .nil)))))))))))) .nil))))
def p__law_told : DefP := ⟨"_law_told", none, top 20, ["_law_t", "_law_rows"], ["_law_t"], b__law_told⟩
def b_record_at : Ss := (.cons (.ite (.val (.cmp .eq (.ix (.var 1) (.int 0)) (.str "promise"))) (.cons (.ret (.mth (.fld (.var 0) "promises") .get (.cons (.ix (.var 1) (.int 1)) (.cons (.tup (.cons (.str "pending") .nil)) .nil)))) .nil) .nil) (.cons (.ret (.ix (.ix (.fld (.var 0) "answers") (.sl (.var 1) (.int 1) .non)) (.int 1))) .nil))
def p_record_at : DefP := ⟨"record_at", none, top 4, ["tables", "key"], ["tables", "key"], b_record_at⟩
def b_put_out : Ss := (.cons (.expr (.mth (.fld (.var 0) "out") .append (.cons (.tup (.cons (.var 1) (.cons (.var 2) .nil))) .nil))) .nil)
def p_put_out : DefP := ⟨"put_out", none, top 3, ["tables", "receiver", "content"], ["tables", "receiver", "content"], b_put_out⟩
def b_return_answer : Ss := (.cons (.ite (.val (.cmp .eq (.ix (.var 1) (.int 0)) (.str "forwarded"))) (.cons (.expr (.call 5 (.cons (.var 0) (.cons (.ix (.var 1) (.int 1)) (.cons (.tup (.cons (.str "release_answer") (.cons (.ix (.var 1) (.int 2)) (.cons (.ix (.var 1) (.int 3)) .nil)))) .nil))))) .nil) .nil) .nil)
def p_return_answer : DefP := ⟨"return_answer", none, top 6, ["tables", "record"], ["tables", "record"], b_return_answer⟩
def b_put_record : Ss := (.cons (.ite (.val (.cmp .eq (.ix (.var 1) (.int 0)) (.str "promise"))) (.cons (.setIx (.fld (.var 0) "promises") (.ix (.var 1) (.int 1)) (.var 2)) .nil) (.cons (.set (.many [3, 4, 5]) (.ix (.fld (.var 0) "answers") (.sl (.var 1) (.int 1) .non))) (.cons (.setIx (.fld (.var 0) "answers") (.sl (.var 1) (.int 1) .non) (.tup (.cons (.var 3) (.cons (.var 2) (.cons (.var 5) .nil))))) .nil))) .nil)
def p_put_record : DefP := ⟨"put_record", none, top 5, ["tables", "key", "record", "send", "_", "left"], ["tables", "key", "record"], b_put_record⟩
def b_set_record : Ss := (.cons (.set (.one 3) (.call 4 (.cons (.var 0) (.cons (.var 1) .nil)))) (.cons (.expr (.call 7 (.cons (.var 0) (.cons (.var 1) (.cons (.var 2) .nil))))) (.cons (.ite (.val (.cmp .isIn (.ix (.var 2) (.int 0)) (.con (.kt [(.str "fulfilled"), (.str "broken")])))) (.cons (.expr (.call 6 (.cons (.var 0) (.cons (.var 3) .nil)))) .nil) .nil) .nil)))
def p_set_record : DefP := ⟨"set_record", none, top 7, ["tables", "key", "record", "old"], ["tables", "key", "record"], b_set_record⟩
def b__law_atom : Ss := (.cons (.set (.one 2) (.call 0 (.cons (.var 0) (.cons (.int 9) .nil)))) (.cons (.set (.one 3) (.ix (.comp [4] (.var 4) (.one 4) .plain (.cons (.lst (.cons (.int 1) (.cons (.int 2) (.cons (.int 3) (.cons (.int 4) .nil))))) .nil) (.val (.cmp .ne (.var 4) (.ix (.var 1) (.str "vat"))))) (.call 0 (.cons (.var 0) (.cons (.int 3) .nil))))) (.cons (.ite (.val (.cmp .lt (.var 2) (.int 2))) (.cons (.ret (.tup (.cons (.str "object") (.cons (.ix (.var 1) (.str "vat")) (.cons (.bin .add (.int 101) (.call 0 (.cons (.var 0) (.cons (.int 3) .nil)))) .nil))))) .nil) .nil) (.cons (.ite (.val (.cmp .lt (.var 2) (.int 4))) (.cons (.ret (.tup (.cons (.str "promise") (.cons (.ix (.var 1) (.str "vat")) (.cons (.bin .add (.int 101) (.call 0 (.cons (.var 0) (.cons (.ix (.var 1) (.str "top")) .nil)))) .nil))))) .nil) .nil) (.cons (.ite (.val (.cmp .eq (.var 2) (.int 4))) (.cons (.ret (.tup (.cons (.str "object") (.cons (.var 3) (.cons (.bin .add (.int 1) (.call 0 (.cons (.var 0) (.cons (.int 2) .nil)))) .nil))))) .nil) .nil) (.cons (.ite (.val (.cmp .lt (.var 2) (.int 7))) (.cons (.ret (.tup (.cons (.str "promise") (.cons (.var 3) (.cons (.bin .add (.int 1) (.call 0 (.cons (.var 0) (.cons (.int 2) .nil)))) .nil))))) .nil) .nil) (.cons (.ret (.ix (.lst (.cons (.tup (.cons (.str "none") .nil)) (.cons (.tup (.cons (.str "bool") (.cons (.bl true) .nil))) (.cons (.tup (.cons (.str "int") (.cons (.call 0 (.cons (.var 0) (.cons (.int 99) .nil))) .nil))) (.cons (.tup (.cons (.str "text") (.cons (.str "a b") .nil))) .nil))))) (.call 0 (.cons (.var 0) (.cons (.int 4) .nil))))) .nil)))))))
def p__law_atom : DefP := ⟨"_law_atom", none, top 23, ["_law_box", "_law_s", "_law_kind", "_law_other", "_law_k"], ["_law_box", "_law_s"], b__law_atom⟩
def b__law_value : Ss := (.cons (.ite (.val (.cmp .gt (.call 0 (.cons (.var 0) (.cons (.int 6) .nil))) (.int 0))) (.cons (.ret (.call 9 (.cons (.var 0) (.cons (.var 1) .nil)))) .nil) .nil) (.cons (.ret (.tup (.cons (.str "list") (.cons (.blt .tuple (.cons (.comp [2] (.call 9 (.cons (.var 0) (.cons (.var 1) .nil))) (.one 2) .range (.cons (.call 0 (.cons (.var 0) (.cons (.int 4) .nil))) .nil) .tt) .nil)) .nil)))) .nil))
def p__law_value : DefP := ⟨"_law_value", none, top 24, ["_law_box", "_law_s", "_law_k"], ["_law_box", "_law_s"], b__law_value⟩
def b__law_settled : Ss := (.cons (.ite (.val (.cmp .eq (.call 0 (.cons (.var 0) (.cons (.int 4) .nil))) (.int 0))) (.cons (.ret (.tup (.cons (.str "broken") (.cons (.ix (.lst (.cons (.str "oh") (.cons (.str "not an object") .nil))) (.call 0 (.cons (.var 0) (.cons (.int 2) .nil)))) .nil)))) .nil) .nil) (.cons (.ret (.tup (.cons (.str "fulfilled") (.cons (.call 10 (.cons (.var 0) (.cons (.var 1) .nil))) .nil)))) .nil))
def p__law_settled : DefP := ⟨"_law_settled", none, top 25, ["_law_box", "_law_s"], ["_law_box", "_law_s"], b__law_settled⟩
def b__law_weight : Ss := (.cons (.set (.one 1) (.call 0 (.cons (.var 0) (.cons (.int 5) .nil)))) (.cons (.ite (.val (.cmp .eq (.var 1) (.int 0))) (.cons (.ret (.tup (.cons (.bin .add (.int 1) (.call 0 (.cons (.var 0) (.cons (.int 6) .nil)))) (.cons (.int 0) .nil)))) .nil) .nil) (.cons (.ret (.tup (.cons (.bin .add (.int 1) (.bin .mul (.int 2) (.call 0 (.cons (.var 0) (.cons (.int 9) .nil))))) (.cons (.var 1) .nil)))) .nil)))
def p__law_weight : DefP := ⟨"_law_weight", none, top 22, ["_law_box", "_law_low_here"], ["_law_box"], b__law_weight⟩
def b__law_outcome : Ss := (.cons (.set (.one 2) (.call 0 (.cons (.var 0) (.cons (.int 6) .nil)))) (.cons (.ite (.val (.cmp .lt (.var 2) (.int 2))) (.cons (.ret (.tup (.cons (.str "pending") .nil))) .nil) .nil) (.cons (.ite (.val (.cmp .eq (.var 2) (.int 2))) (.cons (.set (.one 3) (.ix (.comp [4] (.var 4) (.one 4) .plain (.cons (.lst (.cons (.int 1) (.cons (.int 2) (.cons (.int 3) (.cons (.int 4) .nil))))) .nil) (.val (.cmp .ne (.var 4) (.ix (.var 1) (.str "vat"))))) (.call 0 (.cons (.var 0) (.cons (.int 3) .nil))))) (.cons (.ret (.tup (.cons (.str "forwarded") (.cons (.var 3) (.cons (.bin .add (.int 1) (.call 0 (.cons (.var 0) (.cons (.int 5) .nil)))) (.cons (.call 12 (.cons (.var 0) .nil)) .nil)))))) .nil)) .nil) (.cons (.ret (.call 11 (.cons (.var 0) (.cons (.var 1) .nil)))) .nil))))
def p__law_outcome : DefP := ⟨"_law_outcome", none, top 26, ["_law_box", "_law_s", "_law_kind", "_law_other", "_law_k"], ["_law_box", "_law_s"], b__law_outcome⟩
def b__law_load_0 : Ss := (.cons (.expr (.mth (.var 6) .append (.cons (.var 7) .nil))) .nil)
def b__law_load_1 : Ss := (.cons (.for (.one 7) .plain (.cons (.ix (.var 1) (.var 4)) .nil) b__law_load_0) .nil)
def b__law_load_2 : Ss := (.cons (.setIx (.var 3) (.var 5) (.ix (.ix (.var 1) (.var 4)) (.var 5))) .nil)
def b__law_load_3 : Ss := (.cons (.for (.one 5) .plain (.cons (.ix (.var 1) (.var 4)) .nil) b__law_load_2) .nil)
def b__law_load : Ss := (.cons (.set (.one 2) (.lst (.cons (.tup (.cons (.fld (.var 0) "objects") (.cons (.str "objects") .nil))) (.cons (.tup (.cons (.fld (.var 0) "promises") (.cons (.str "promises") .nil))) (.cons (.tup (.cons (.fld (.var 0) "answers") (.cons (.str "answers") .nil))) (.cons (.tup (.cons (.fld (.var 0) "lent") (.cons (.str "lent") .nil))) (.cons (.tup (.cons (.fld (.var 0) "held") (.cons (.str "held") .nil))) .nil))))))) (.cons (.set (.one 2) (.bin .add (.var 2) (.lst (.cons (.tup (.cons (.fld (.var 0) "known") (.cons (.str "known") .nil))) (.cons (.tup (.cons (.fld (.var 0) "hoped") (.cons (.str "hoped") .nil))) (.cons (.tup (.cons (.fld (.var 0) "places") (.cons (.str "places") .nil))) (.cons (.tup (.cons (.fld (.var 0) "arrived") (.cons (.str "arrived") .nil))) (.cons (.tup (.cons (.fld (.var 0) "pins") (.cons (.str "pins") .nil))) .nil)))))))) (.cons (.for (.many [3, 4]) .plain (.cons (.var 2) .nil) b__law_load_3) (.cons (.set (.one 2) (.lst (.cons (.tup (.cons (.fld (.var 0) "queue") (.cons (.str "queue") .nil))) (.cons (.tup (.cons (.fld (.var 0) "parked") (.cons (.str "parked") .nil))) (.cons (.tup (.cons (.fld (.var 0) "early") (.cons (.str "early") .nil))) (.cons (.tup (.cons (.fld (.var 0) "waiting") (.cons (.str "waiting") .nil))) .nil)))))) (.cons (.for (.many [6, 4]) .plain (.cons (.bin .add (.var 2) (.lst (.cons (.tup (.cons (.fld (.var 0) "listeners") (.cons (.str "listeners") .nil))) (.cons (.tup (.cons (.fld (.var 0) "transfers") (.cons (.str "transfers") .nil))) .nil)))) .nil) b__law_load_1) (.cons (.ret (.var 0)) .nil))))))
def p__law_load : DefP := ⟨"_law_load", none, top 21, ["_law_t", "_law_s", "_law_pairs", "_law_box", "_law_word", "_law_key", "_law_rows", "_law_row"], ["_law_t", "_law_s"], b__law_load⟩
def b_Tables___init__ : Ss := (.cons (.setFld (.var 0) "vat" (.var 1)) (.cons (.setFld (.var 0) "program" (.var 2)) (.cons (.setFld (.var 0) "objects" (.dct .nil)) (.cons (.setFld (.var 0) "made" (.int 0)) (.cons (.setFld (.var 0) "sent" (.int 0)) (.cons (.setFld (.var 0) "asked" (.int 0)) (.cons (.setFld (.var 0) "promises" (.dct .nil)) (.cons (.setFld (.var 0) "answers" (.dct .nil)) (.cons (.setFld (.var 0) "lent" (.dct .nil)) (.cons (.setFld (.var 0) "held" (.dct .nil)) (.cons (.setFld (.var 0) "known" (.dct .nil)) (.cons (.setFld (.var 0) "hoped" (.dct .nil)) (.cons (.setFld (.var 0) "places" (.dct .nil)) (.cons (.setFld (.var 0) "arrived" (.dct .nil)) (.cons (.setFld (.var 0) "queue" (.lst .nil)) (.cons (.setFld (.var 0) "parked" (.lst .nil)) (.cons (.setFld (.var 0) "early" (.lst .nil)) (.cons (.setFld (.var 0) "waiting" (.lst .nil)) (.cons (.setFld (.var 0) "listeners" (.lst .nil)) (.cons (.setFld (.var 0) "pins" (.dct .nil)) (.cons (.setFld (.var 0) "transfers" (.lst .nil)) (.cons (.setFld (.var 0) "out" (.lst .nil)) (.cons (.setFld (.var 0) "log" (.lst .nil)) (.cons (.setFld (.var 0) "order" (.lst .nil)) .nil))))))))))))))))))))))))
def p_Tables___init__ : DefP := ⟨"__init__", some 0, inC (top 2) 0, ["self", "vat", "program"], ["self", "vat", "program"], b_Tables___init__⟩
def b__law_all_far_0 : Ss := (.cons (.set (.one 1) (.bin .add (.var 1) (.lst (.cons (.tup (.cons (.var 2) (.cons (.var 3) (.cons (.int 1) .nil)))) (.cons (.tup (.cons (.var 2) (.cons (.var 3) (.cons (.int 2) .nil)))) .nil))))) .nil)
def b__law_all_far_1 : Ss := (.cons (.for (.one 3) .plain (.cons (.var 0) .nil) b__law_all_far_0) .nil)
def b__law_all_far : Ss := (.cons (.set (.one 1) (.lst .nil)) (.cons (.for (.one 2) .plain (.cons (.lst (.cons (.str "object") (.cons (.str "promise") .nil))) .nil) b__law_all_far_1) (.cons (.ret (.var 1)) .nil)))
def p__law_all_far : DefP := ⟨"_law_all_far", none, top 28, ["_law_others", "_law_found", "_law_word", "_law_other"], ["_law_others"], b__law_all_far⟩
def b__law_begin : Ss := (.cons (.ret (.dct (.cons (.str "vat") (.cons (.var 0) (.cons (.str "top") (.cons (.int 0) (.cons (.str "objects") (.cons (.dct .nil) (.cons (.str "made") (.cons (.int 0) (.cons (.str "sent") (.cons (.int 0) (.cons (.str "asked") (.cons (.int 0) (.cons (.str "promises") (.cons (.dct .nil) (.cons (.str "answers") (.cons (.dct .nil) (.cons (.str "lent") (.cons (.dct .nil) (.cons (.str "held") (.cons (.dct .nil) (.cons (.str "known") (.cons (.dct .nil) (.cons (.str "hoped") (.cons (.dct .nil) (.cons (.str "places") (.cons (.dct .nil) (.cons (.str "arrived") (.cons (.dct .nil) (.cons (.str "queue") (.cons (.lst .nil) (.cons (.str "parked") (.cons (.lst .nil) (.cons (.str "early") (.cons (.lst .nil) (.cons (.str "waiting") (.cons (.lst .nil) (.cons (.str "listeners") (.cons (.lst .nil) (.cons (.str "pins") (.cons (.dct .nil) (.cons (.str "transfers") (.cons (.lst .nil) (.cons (.str "out") (.cons (.lst .nil) (.cons (.str "log") (.cons (.lst .nil) .nil)))))))))))))))))))))))))))))))))))))))))))))))) .nil)
def p__law_begin : DefP := ⟨"_law_begin", none, top 18, ["_law_vat"], ["_law_vat"], b__law_begin⟩
def b__law_table_0 : Ss := (.cons (.set (.one 7) (.tup (.cons (.ix (.var 2) (.call 0 (.cons (.var 0) (.cons (.int 3) .nil)))) (.cons (.bin .add (.int 20) (.var 6)) .nil)))) (.cons (.set (.one 8) (.tup (.cons (.ix (.var 2) (.call 0 (.cons (.var 0) (.cons (.int 3) .nil)))) (.cons (.bin .add (.int 1) (.var 6)) .nil)))) (.cons (.set (.one 9) (.call 13 (.cons (.var 0) (.cons (.var 1) .nil)))) (.cons (.ite (.and (.val (.cmp .lt (.var 6) (.int 2))) (.val (.cmp .eq (.call 0 (.cons (.var 0) (.cons (.int 3) .nil))) (.int 0)))) (.cons (.set (.one 7) (.tup (.cons (.ix (.var 1) (.str "vat")) (.cons (.bin .add (.int 101) (.var 6)) .nil)))) (.cons (.setIx (.ix (.var 1) (.str "promises")) (.bin .add (.int 101) (.var 6)) (.tup (.cons (.str "forwarded") (.cons (.ix (.var 8) (.int 0)) (.cons (.bin .add (.int 60) (.var 6)) (.cons (.call 12 (.cons (.var 0) .nil)) .nil)))))) (.cons (.ite (.or (.val (.cmp .eq (.ix (.var 9) (.int 0)) (.str "fulfilled"))) (.val (.cmp .eq (.ix (.var 9) (.int 0)) (.str "broken")))) (.cons (.setIx (.ix (.var 1) (.str "promises")) (.bin .add (.int 101) (.var 6)) (.var 9)) .nil) .nil) .nil))) .nil) (.cons (.setIx (.ix (.var 1) (.str "answers")) (.var 8) (.tup (.cons (.var 7) (.cons (.var 9) (.cons (.call 12 (.cons (.var 0) .nil)) .nil))))) .nil)))))
def b__law_table_1 : Ss := (.cons (.setIx (.ix (.var 1) (.str "promises")) (.bin .add (.var 6) (.int 101)) (.call 13 (.cons (.var 0) (.cons (.var 1) .nil)))) (.cons (.ite (.val (.cmp .eq (.call 0 (.cons (.var 0) (.cons (.int 3) .nil))) (.int 0))) (.cons (.setIx (.ix (.var 1) (.str "lent")) (.tup (.cons (.str "promise") (.cons (.ix (.var 1) (.str "vat")) (.cons (.bin .add (.var 6) (.int 101)) .nil)))) (.call 12 (.cons (.var 0) .nil))) .nil) .nil) .nil))
def b__law_table_2 : Ss := (.cons (.setIx (.ix (.var 1) (.str "objects")) (.bin .add (.var 6) (.int 101)) (.tup (.cons (.ix (.lst (.cons (.str "p") (.cons (.str "q") .nil))) (.call 0 (.cons (.var 0) (.cons (.int 2) .nil)))) (.cons (.tup (.cons (.call 10 (.cons (.var 0) (.cons (.var 1) .nil))) (.cons (.call 10 (.cons (.var 0) (.cons (.var 1) .nil))) .nil))) .nil)))) (.cons (.ite (.val (.cmp .eq (.call 0 (.cons (.var 0) (.cons (.int 2) .nil))) (.int 0))) (.cons (.setIx (.ix (.var 1) (.str "lent")) (.tup (.cons (.str "object") (.cons (.ix (.var 1) (.str "vat")) (.cons (.bin .add (.var 6) (.int 101)) .nil)))) (.call 12 (.cons (.var 0) .nil))) .nil) .nil) .nil))
def b__law_table_3 : Ss := (.cons (.setIx (.ix (.var 1) (.str "held")) (.var 5) (.call 12 (.cons (.var 0) .nil))) (.cons (.ite (.and (.val (.cmp .eq (.ix (.var 5) (.int 0)) (.str "promise"))) (.val (.cmp .eq (.call 0 (.cons (.var 0) (.cons (.int 3) .nil))) (.int 0)))) (.cons (.setIx (.ix (.var 1) (.str "known")) (.var 5) (.call 11 (.cons (.var 0) (.cons (.var 1) .nil)))) .nil) .nil) .nil))
def b__law_table : Ss := (.cons (.set (.one 1) (.call 17 (.cons (.bin .add (.int 1) (.call 0 (.cons (.var 0) (.cons (.int 4) .nil)))) .nil))) (.cons (.set (.one 2) (.comp [6] (.var 6) (.one 6) .plain (.cons (.lst (.cons (.int 1) (.cons (.int 2) (.cons (.int 3) (.cons (.int 4) .nil))))) .nil) (.val (.cmp .ne (.var 6) (.ix (.var 1) (.str "vat")))))) (.cons (.setIx (.var 1) (.str "top") (.bin .add (.int 2) (.call 0 (.cons (.var 0) (.cons (.int 5) .nil))))) (.cons (.set (.one 3) (.call 0 (.cons (.var 0) (.cons (.int 12) .nil)))) (.cons (.set (.one 4) (.call 16 (.cons (.var 2) .nil))) (.cons (.for (.one 5) .plain (.cons (.bin .add (.sl (.var 4) (.var 3) .non) (.sl (.var 4) .non (.var 3))) .nil) b__law_table_3) (.cons (.for (.one 6) .range (.cons (.int 3) .nil) b__law_table_2) (.cons (.for (.one 6) .range (.cons (.ix (.var 1) (.str "top")) .nil) b__law_table_1) (.cons (.for (.one 6) .range (.cons (.call 0 (.cons (.var 0) (.cons (.int 4) .nil))) .nil) b__law_table_0) (.cons (.ret (.var 1)) .nil))))))))))
def p__law_table : DefP := ⟨"_law_table", none, top 27, ["_law_box", "_law_s", "_law_others", "_law_turn", "_law_far", "_law_one", "_law_k", "_law_send", "_law_spot", "_law_record"], ["_law_box"], b__law_table⟩
def b__law_cell : Ss := (.cons (.ite (.val (.cmp .lt (.var 1) (.blt .len (.cons (.var 0) .nil)))) (.cons (.ret (.ix (.var 0) (.var 1))) .nil) .nil) (.cons (.ret (.int 0)) .nil))
def p__law_cell : DefP := ⟨"_law_cell", none, top 9, ["_law_script", "_law_k"], ["_law_script", "_law_k"], b__law_cell⟩
def b__law_digits_0 : Ss := (.cons (.ite (.val (.cmp .gt (.var 5) (.int 0))) (.cons (.expr (.mth (.var 3) .append (.cons (.bin .mod (.blt .int (.cons (.var 5) .nil)) (.int 1000)) .nil))) (.cons (.set (.one 5) (.bin .fdiv (.var 5) (.int 1000))) .nil)) .nil) .nil)
def b__law_digits_1 : Ss := (.cons (.set (.one 7) (.bin .mod (.blt .int (.cons (.bin .add (.bin .add (.bin .mul (.var 7) (.int 16807)) (.bin .mul (.int 7) (.var 6))) (.int 1)) .nil)) (.int 2147483647))) (.cons (.expr (.mth (.var 3) .append (.cons (.bin .mod (.blt .int (.cons (.bin .fdiv (.var 7) (.int 997)) .nil)) (.int 1000)) .nil))) .nil))
def b__law_digits_2 : Ss := (.cons (.set (.one 5) (.call 19 (.cons (.var 0) (.cons (.var 4) .nil)))) (.cons (.ite (.val (.cmp .lt (.var 5) (.int 0))) (.cons (.set (.one 5) (.bin .sub (.int 1) (.bin .mul (.int 2) (.var 5)))) .nil) .nil) (.cons (.ite (.val (.cmp .ge (.var 5) (.bin .pow (.int 10) (.int 18)))) (.cons (.for (.one 6) .range (.cons (.int 60) .nil) b__law_digits_0) .nil) (.cons (.set (.one 7) (.bin .mod (.blt .int (.cons (.bin .add (.bin .add (.bin .mul (.var 5) (.int 48271)) (.bin .mul (.var 4) (.int 69621))) (.int 11)) .nil)) (.int 2147483647))) (.cons (.for (.one 6) .range (.cons (.int 12) .nil) b__law_digits_1) .nil))) .nil)))
def b__law_digits : Ss := (.cons (.set (.one 3) (.lst .nil)) (.cons (.for (.one 4) .range (.cons (.var 1) (.cons (.var 2) .nil)) b__law_digits_2) (.cons (.ret (.var 3)) .nil)))
def p__law_digits : DefP := ⟨"_law_digits", none, top 10, ["_law_script", "_law_first", "_law_last", "_law_digits_here", "_law_k", "_law_cell_here", "_law_turn", "_law_seed"], ["_law_script", "_law_first", "_law_last"], b__law_digits⟩
def b_law_0 : Ss := (.cons (.set (.one 5) (.bin .add (.comp [11] (.tup (.cons (.str "promise") (.cons (.var 11) .nil))) (.one 11) .plain (.cons (.ix (.var 2) (.str "promises")) .nil) .tt) (.comp [12] (.tup (.cons (.str "answer") (.cons (.ix (.var 12) (.int 0)) (.cons (.ix (.var 12) (.int 1)) .nil)))) (.one 12) .plain (.cons (.ix (.var 2) (.str "answers")) .nil) .tt))) (.cons (.set (.one 6) (.ix (.var 5) (.call 0 (.cons (.var 1) (.cons (.blt .len (.cons (.var 5) .nil)) .nil))))) (.cons (.set (.one 7) (.call 13 (.cons (.var 1) (.cons (.var 2) .nil)))) (.cons (.ite (.val (.cmp .eq (.ix (.var 6) (.int 0)) (.str "promise"))) (.cons (.set (.one 8) (.ix (.ix (.var 2) (.str "promises")) (.ix (.var 6) (.int 1)))) (.cons (.setIx (.ix (.var 2) (.str "promises")) (.ix (.var 6) (.int 1)) (.var 7)) .nil)) (.cons (.set (.many [9, 8, 10]) (.ix (.ix (.var 2) (.str "answers")) (.sl (.var 6) (.int 1) .non))) (.cons (.setIx (.ix (.var 2) (.str "answers")) (.sl (.var 6) (.int 1) .non) (.tup (.cons (.var 9) (.cons (.var 7) (.cons (.var 10) .nil))))) .nil))) (.cons (.ite (.not (.val (.call 1 (.cons (.call 4 (.cons (.var 3) (.cons (.var 6) .nil))) (.cons (.var 8) .nil))))) (.cons (.ret (.bl false)) .nil) .nil) (.cons (.ite (.and (.val (.cmp .eq (.ix (.var 8) (.int 0)) (.str "forwarded"))) (.val (.cmp .isIn (.ix (.var 7) (.int 0)) (.lst (.cons (.str "fulfilled") (.cons (.str "broken") .nil)))))) (.cons (.expr (.mth (.ix (.var 2) (.str "out")) .append (.cons (.tup (.cons (.ix (.var 8) (.int 1)) (.cons (.tup (.cons (.str "release_answer") (.cons (.ix (.var 8) (.int 2)) (.cons (.ix (.var 8) (.int 3)) .nil)))) .nil))) .nil))) .nil) .nil) (.cons (.expr (.call 8 (.cons (.var 3) (.cons (.var 6) (.cons (.var 7) .nil))))) (.cons (.ite (.or (.not (.val (.call 1 (.cons (.call 4 (.cons (.var 3) (.cons (.var 6) .nil))) (.cons (.var 7) .nil))))) (.not (.val (.call 1 (.cons (.call 3 (.cons (.var 3) .nil)) (.cons (.call 2 (.cons (.var 2) .nil)) .nil)))))) (.cons (.ret (.bl false)) .nil) .nil) .nil))))))))
def b_law : Ss := (.cons (.set (.one 1) (.lst (.cons (.call 20 (.cons (.var 0) (.cons (.int 0) (.cons (.int 30) .nil)))) (.cons (.int 0) .nil)))) (.cons (.set (.one 2) (.call 18 (.cons (.var 1) .nil))) (.cons (.set (.one 3) (.call 14 (.cons (.make 0 15 (.cons (.ix (.var 2) (.str "vat")) (.cons (.tup .nil) .nil))) (.cons (.var 2) .nil)))) (.cons (.for (.one 4) .range (.cons (.call 0 (.cons (.var 1) (.cons (.int 9) .nil))) .nil) b_law_0) (.cons (.ret (.bl true)) .nil)))))
def p_law : DefP := ⟨"law", none, top 29, ["_law_script", "_law_box", "_law_s", "_law_t", "_law_turn", "_law_keys", "_law_key", "_law_record", "_law_old", "_law_send", "_law_left", "_law_k", "_law_spot"], ["_law_script"], b_law⟩
def md : Md := ⟨[p__law_draw, p__law_same, p__law_due, p__law_told, p_record_at, p_put_out, p_return_answer, p_put_record, p_set_record, p__law_atom, p__law_value, p__law_settled, p__law_weight, p__law_outcome, p__law_load, p_Tables___init__, p__law_all_far, p__law_begin, p__law_table, p__law_cell, p__law_digits, p_law], [("SETTLED", .con (.kt [(.str "fulfilled"), (.str "broken")])), ("int", .blt), ("len", .blt), ("list", .blt), ("range", .blt), ("repr", .blt), ("sorted", .blt), ("tuple", .blt)], ["Tables"], [(0, "answers"), (0, "arrived"), (0, "asked"), (0, "early"), (0, "held"), (0, "hoped"), (0, "known"), (0, "lent"), (0, "listeners"), (0, "log"), (0, "made"), (0, "objects"), (0, "order"), (0, "out"), (0, "parked"), (0, "pins"), (0, "places"), (0, "program"), (0, "promises"), (0, "queue"), (0, "sent"), (0, "transfers"), (0, "vat"), (0, "waiting")]⟩
-- places: _law_draw=0 _law_same=1 _law_due=2 _law_told=3 record_at=4 put_out=5 return_answer=6 put_record=7 set_record=8 _law_atom=9 _law_value=10 _law_settled=11 _law_weight=12 _law_outcome=13 _law_load=14 Tables.__init__=15 _law_all_far=16 _law_begin=17 _law_table=18 _law_cell=19 _law_digits=20 law=21
theorem sc__law_draw : FnScope p__law_draw.N p__law_draw.ps (C8.fnScope p__law_draw.st) := C8.fnScope_by (by decide +kernel)
theorem ir__law_draw : cSs 200 ⟨p__law_draw.N, C8.fnScope p__law_draw.st, md.glk 0, true⟩ (C8.fnBody p__law_draw.st) = some p__law_draw.ir := by kernel_rfl
theorem bd__law_draw : ∀ (kV doc pm : Value) (an : Option Addr) (cdv ct : Value) (us : List Value), us.length = p__law_draw.ps.length → bindArgs (PySem.W.fnOf p__law_draw.x (md.qual p__law_draw) (C8.fnArgs p__law_draw.st) (C8.fnBody p__law_draw.st) (C8.fnScope p__law_draw.st) .none kV doc pm an cdv ct) ⟨us, []⟩ = pure (p__law_draw.ps.zip us) := fun _ _ _ _ _ _ us hl => match us, hl with | [_, _], _ => rfl
theorem sc__law_same : FnScope p__law_same.N p__law_same.ps (C8.fnScope p__law_same.st) := C8.fnScope_by (by decide +kernel)
theorem ir__law_same : cSs 200 ⟨p__law_same.N, C8.fnScope p__law_same.st, md.glk 1, true⟩ (C8.fnBody p__law_same.st) = some p__law_same.ir := by kernel_rfl
theorem bd__law_same : ∀ (kV doc pm : Value) (an : Option Addr) (cdv ct : Value) (us : List Value), us.length = p__law_same.ps.length → bindArgs (PySem.W.fnOf p__law_same.x (md.qual p__law_same) (C8.fnArgs p__law_same.st) (C8.fnBody p__law_same.st) (C8.fnScope p__law_same.st) .none kV doc pm an cdv ct) ⟨us, []⟩ = pure (p__law_same.ps.zip us) := fun _ _ _ _ _ _ us hl => match us, hl with | [_, _], _ => rfl
theorem sc__law_due : FnScope p__law_due.N p__law_due.ps (C8.fnScope p__law_due.st) := C8.fnScope_by (by decide +kernel)
theorem ir__law_due : cSs 200 ⟨p__law_due.N, C8.fnScope p__law_due.st, md.glk 2, true⟩ (C8.fnBody p__law_due.st) = some p__law_due.ir := by kernel_rfl
theorem bd__law_due : ∀ (kV doc pm : Value) (an : Option Addr) (cdv ct : Value) (us : List Value), us.length = p__law_due.ps.length → bindArgs (PySem.W.fnOf p__law_due.x (md.qual p__law_due) (C8.fnArgs p__law_due.st) (C8.fnBody p__law_due.st) (C8.fnScope p__law_due.st) .none kV doc pm an cdv ct) ⟨us, []⟩ = pure (p__law_due.ps.zip us) := fun _ _ _ _ _ _ us hl => match us, hl with | [_], _ => rfl
theorem sc__law_told : FnScope p__law_told.N p__law_told.ps (C8.fnScope p__law_told.st) := C8.fnScope_by (by decide +kernel)
theorem ir__law_told : cSs 200 ⟨p__law_told.N, C8.fnScope p__law_told.st, md.glk 3, true⟩ (C8.fnBody p__law_told.st) = some p__law_told.ir := by kernel_rfl
theorem bd__law_told : ∀ (kV doc pm : Value) (an : Option Addr) (cdv ct : Value) (us : List Value), us.length = p__law_told.ps.length → bindArgs (PySem.W.fnOf p__law_told.x (md.qual p__law_told) (C8.fnArgs p__law_told.st) (C8.fnBody p__law_told.st) (C8.fnScope p__law_told.st) .none kV doc pm an cdv ct) ⟨us, []⟩ = pure (p__law_told.ps.zip us) := fun _ _ _ _ _ _ us hl => match us, hl with | [_], _ => rfl
theorem sc_record_at : FnScope p_record_at.N p_record_at.ps (C8.fnScope p_record_at.st) := C8.fnScope_by (by decide +kernel)
theorem ir_record_at : cSs 200 ⟨p_record_at.N, C8.fnScope p_record_at.st, md.glk 4, true⟩ (C8.fnBody p_record_at.st) = some p_record_at.ir := by kernel_rfl
theorem bd_record_at : ∀ (kV doc pm : Value) (an : Option Addr) (cdv ct : Value) (us : List Value), us.length = p_record_at.ps.length → bindArgs (PySem.W.fnOf p_record_at.x (md.qual p_record_at) (C8.fnArgs p_record_at.st) (C8.fnBody p_record_at.st) (C8.fnScope p_record_at.st) .none kV doc pm an cdv ct) ⟨us, []⟩ = pure (p_record_at.ps.zip us) := fun _ _ _ _ _ _ us hl => match us, hl with | [_, _], _ => rfl
theorem sc_put_out : FnScope p_put_out.N p_put_out.ps (C8.fnScope p_put_out.st) := C8.fnScope_by (by decide +kernel)
theorem ir_put_out : cSs 200 ⟨p_put_out.N, C8.fnScope p_put_out.st, md.glk 5, true⟩ (C8.fnBody p_put_out.st) = some p_put_out.ir := by kernel_rfl
theorem bd_put_out : ∀ (kV doc pm : Value) (an : Option Addr) (cdv ct : Value) (us : List Value), us.length = p_put_out.ps.length → bindArgs (PySem.W.fnOf p_put_out.x (md.qual p_put_out) (C8.fnArgs p_put_out.st) (C8.fnBody p_put_out.st) (C8.fnScope p_put_out.st) .none kV doc pm an cdv ct) ⟨us, []⟩ = pure (p_put_out.ps.zip us) := fun _ _ _ _ _ _ us hl => match us, hl with | [_, _, _], _ => rfl
theorem sc_return_answer : FnScope p_return_answer.N p_return_answer.ps (C8.fnScope p_return_answer.st) := C8.fnScope_by (by decide +kernel)
theorem ir_return_answer : cSs 200 ⟨p_return_answer.N, C8.fnScope p_return_answer.st, md.glk 6, true⟩ (C8.fnBody p_return_answer.st) = some p_return_answer.ir := by kernel_rfl
theorem bd_return_answer : ∀ (kV doc pm : Value) (an : Option Addr) (cdv ct : Value) (us : List Value), us.length = p_return_answer.ps.length → bindArgs (PySem.W.fnOf p_return_answer.x (md.qual p_return_answer) (C8.fnArgs p_return_answer.st) (C8.fnBody p_return_answer.st) (C8.fnScope p_return_answer.st) .none kV doc pm an cdv ct) ⟨us, []⟩ = pure (p_return_answer.ps.zip us) := fun _ _ _ _ _ _ us hl => match us, hl with | [_, _], _ => rfl
theorem sc_put_record : FnScope p_put_record.N p_put_record.ps (C8.fnScope p_put_record.st) := C8.fnScope_by (by decide +kernel)
theorem ir_put_record : cSs 200 ⟨p_put_record.N, C8.fnScope p_put_record.st, md.glk 7, true⟩ (C8.fnBody p_put_record.st) = some p_put_record.ir := by kernel_rfl
theorem bd_put_record : ∀ (kV doc pm : Value) (an : Option Addr) (cdv ct : Value) (us : List Value), us.length = p_put_record.ps.length → bindArgs (PySem.W.fnOf p_put_record.x (md.qual p_put_record) (C8.fnArgs p_put_record.st) (C8.fnBody p_put_record.st) (C8.fnScope p_put_record.st) .none kV doc pm an cdv ct) ⟨us, []⟩ = pure (p_put_record.ps.zip us) := fun _ _ _ _ _ _ us hl => match us, hl with | [_, _, _], _ => rfl
theorem sc_set_record : FnScope p_set_record.N p_set_record.ps (C8.fnScope p_set_record.st) := C8.fnScope_by (by decide +kernel)
theorem ir_set_record : cSs 200 ⟨p_set_record.N, C8.fnScope p_set_record.st, md.glk 8, true⟩ (C8.fnBody p_set_record.st) = some p_set_record.ir := by kernel_rfl
theorem bd_set_record : ∀ (kV doc pm : Value) (an : Option Addr) (cdv ct : Value) (us : List Value), us.length = p_set_record.ps.length → bindArgs (PySem.W.fnOf p_set_record.x (md.qual p_set_record) (C8.fnArgs p_set_record.st) (C8.fnBody p_set_record.st) (C8.fnScope p_set_record.st) .none kV doc pm an cdv ct) ⟨us, []⟩ = pure (p_set_record.ps.zip us) := fun _ _ _ _ _ _ us hl => match us, hl with | [_, _, _], _ => rfl
theorem sc__law_atom : FnScope p__law_atom.N p__law_atom.ps (C8.fnScope p__law_atom.st) := C8.fnScope_by (by decide +kernel)
theorem ir__law_atom : cSs 200 ⟨p__law_atom.N, C8.fnScope p__law_atom.st, md.glk 9, true⟩ (C8.fnBody p__law_atom.st) = some p__law_atom.ir := by kernel_rfl
theorem bd__law_atom : ∀ (kV doc pm : Value) (an : Option Addr) (cdv ct : Value) (us : List Value), us.length = p__law_atom.ps.length → bindArgs (PySem.W.fnOf p__law_atom.x (md.qual p__law_atom) (C8.fnArgs p__law_atom.st) (C8.fnBody p__law_atom.st) (C8.fnScope p__law_atom.st) .none kV doc pm an cdv ct) ⟨us, []⟩ = pure (p__law_atom.ps.zip us) := fun _ _ _ _ _ _ us hl => match us, hl with | [_, _], _ => rfl
theorem sc__law_value : FnScope p__law_value.N p__law_value.ps (C8.fnScope p__law_value.st) := C8.fnScope_by (by decide +kernel)
theorem ir__law_value : cSs 200 ⟨p__law_value.N, C8.fnScope p__law_value.st, md.glk 10, true⟩ (C8.fnBody p__law_value.st) = some p__law_value.ir := by kernel_rfl
theorem bd__law_value : ∀ (kV doc pm : Value) (an : Option Addr) (cdv ct : Value) (us : List Value), us.length = p__law_value.ps.length → bindArgs (PySem.W.fnOf p__law_value.x (md.qual p__law_value) (C8.fnArgs p__law_value.st) (C8.fnBody p__law_value.st) (C8.fnScope p__law_value.st) .none kV doc pm an cdv ct) ⟨us, []⟩ = pure (p__law_value.ps.zip us) := fun _ _ _ _ _ _ us hl => match us, hl with | [_, _], _ => rfl
theorem sc__law_settled : FnScope p__law_settled.N p__law_settled.ps (C8.fnScope p__law_settled.st) := C8.fnScope_by (by decide +kernel)
theorem ir__law_settled : cSs 200 ⟨p__law_settled.N, C8.fnScope p__law_settled.st, md.glk 11, true⟩ (C8.fnBody p__law_settled.st) = some p__law_settled.ir := by kernel_rfl
theorem bd__law_settled : ∀ (kV doc pm : Value) (an : Option Addr) (cdv ct : Value) (us : List Value), us.length = p__law_settled.ps.length → bindArgs (PySem.W.fnOf p__law_settled.x (md.qual p__law_settled) (C8.fnArgs p__law_settled.st) (C8.fnBody p__law_settled.st) (C8.fnScope p__law_settled.st) .none kV doc pm an cdv ct) ⟨us, []⟩ = pure (p__law_settled.ps.zip us) := fun _ _ _ _ _ _ us hl => match us, hl with | [_, _], _ => rfl
theorem sc__law_weight : FnScope p__law_weight.N p__law_weight.ps (C8.fnScope p__law_weight.st) := C8.fnScope_by (by decide +kernel)
theorem ir__law_weight : cSs 200 ⟨p__law_weight.N, C8.fnScope p__law_weight.st, md.glk 12, true⟩ (C8.fnBody p__law_weight.st) = some p__law_weight.ir := by kernel_rfl
theorem bd__law_weight : ∀ (kV doc pm : Value) (an : Option Addr) (cdv ct : Value) (us : List Value), us.length = p__law_weight.ps.length → bindArgs (PySem.W.fnOf p__law_weight.x (md.qual p__law_weight) (C8.fnArgs p__law_weight.st) (C8.fnBody p__law_weight.st) (C8.fnScope p__law_weight.st) .none kV doc pm an cdv ct) ⟨us, []⟩ = pure (p__law_weight.ps.zip us) := fun _ _ _ _ _ _ us hl => match us, hl with | [_], _ => rfl
theorem sc__law_outcome : FnScope p__law_outcome.N p__law_outcome.ps (C8.fnScope p__law_outcome.st) := C8.fnScope_by (by decide +kernel)
theorem ir__law_outcome : cSs 200 ⟨p__law_outcome.N, C8.fnScope p__law_outcome.st, md.glk 13, true⟩ (C8.fnBody p__law_outcome.st) = some p__law_outcome.ir := by kernel_rfl
theorem bd__law_outcome : ∀ (kV doc pm : Value) (an : Option Addr) (cdv ct : Value) (us : List Value), us.length = p__law_outcome.ps.length → bindArgs (PySem.W.fnOf p__law_outcome.x (md.qual p__law_outcome) (C8.fnArgs p__law_outcome.st) (C8.fnBody p__law_outcome.st) (C8.fnScope p__law_outcome.st) .none kV doc pm an cdv ct) ⟨us, []⟩ = pure (p__law_outcome.ps.zip us) := fun _ _ _ _ _ _ us hl => match us, hl with | [_, _], _ => rfl
theorem sc__law_load : FnScope p__law_load.N p__law_load.ps (C8.fnScope p__law_load.st) := C8.fnScope_by (by decide +kernel)
theorem ir__law_load : cSs 200 ⟨p__law_load.N, C8.fnScope p__law_load.st, md.glk 14, true⟩ (C8.fnBody p__law_load.st) = some p__law_load.ir := by kernel_rfl
theorem bd__law_load : ∀ (kV doc pm : Value) (an : Option Addr) (cdv ct : Value) (us : List Value), us.length = p__law_load.ps.length → bindArgs (PySem.W.fnOf p__law_load.x (md.qual p__law_load) (C8.fnArgs p__law_load.st) (C8.fnBody p__law_load.st) (C8.fnScope p__law_load.st) .none kV doc pm an cdv ct) ⟨us, []⟩ = pure (p__law_load.ps.zip us) := fun _ _ _ _ _ _ us hl => match us, hl with | [_, _], _ => rfl
theorem sc_Tables___init__ : FnScope p_Tables___init__.N p_Tables___init__.ps (C8.fnScope p_Tables___init__.st) := C8.fnScope_by (by decide +kernel)
theorem ir_Tables___init__ : cSs 200 ⟨p_Tables___init__.N, C8.fnScope p_Tables___init__.st, md.glk 15, true⟩ (C8.fnBody p_Tables___init__.st) = some p_Tables___init__.ir := by kernel_rfl
theorem bd_Tables___init__ : ∀ (kV doc pm : Value) (an : Option Addr) (cdv ct : Value) (us : List Value), us.length = p_Tables___init__.ps.length → bindArgs (PySem.W.fnOf p_Tables___init__.x (md.qual p_Tables___init__) (C8.fnArgs p_Tables___init__.st) (C8.fnBody p_Tables___init__.st) (C8.fnScope p_Tables___init__.st) .none kV doc pm an cdv ct) ⟨us, []⟩ = pure (p_Tables___init__.ps.zip us) := fun _ _ _ _ _ _ us hl => match us, hl with | [_, _, _], _ => rfl
theorem sc__law_all_far : FnScope p__law_all_far.N p__law_all_far.ps (C8.fnScope p__law_all_far.st) := C8.fnScope_by (by decide +kernel)
theorem ir__law_all_far : cSs 200 ⟨p__law_all_far.N, C8.fnScope p__law_all_far.st, md.glk 16, true⟩ (C8.fnBody p__law_all_far.st) = some p__law_all_far.ir := by kernel_rfl
theorem bd__law_all_far : ∀ (kV doc pm : Value) (an : Option Addr) (cdv ct : Value) (us : List Value), us.length = p__law_all_far.ps.length → bindArgs (PySem.W.fnOf p__law_all_far.x (md.qual p__law_all_far) (C8.fnArgs p__law_all_far.st) (C8.fnBody p__law_all_far.st) (C8.fnScope p__law_all_far.st) .none kV doc pm an cdv ct) ⟨us, []⟩ = pure (p__law_all_far.ps.zip us) := fun _ _ _ _ _ _ us hl => match us, hl with | [_], _ => rfl
theorem sc__law_begin : FnScope p__law_begin.N p__law_begin.ps (C8.fnScope p__law_begin.st) := C8.fnScope_by (by decide +kernel)
theorem ir__law_begin : cSs 200 ⟨p__law_begin.N, C8.fnScope p__law_begin.st, md.glk 17, true⟩ (C8.fnBody p__law_begin.st) = some p__law_begin.ir := by kernel_rfl
theorem bd__law_begin : ∀ (kV doc pm : Value) (an : Option Addr) (cdv ct : Value) (us : List Value), us.length = p__law_begin.ps.length → bindArgs (PySem.W.fnOf p__law_begin.x (md.qual p__law_begin) (C8.fnArgs p__law_begin.st) (C8.fnBody p__law_begin.st) (C8.fnScope p__law_begin.st) .none kV doc pm an cdv ct) ⟨us, []⟩ = pure (p__law_begin.ps.zip us) := fun _ _ _ _ _ _ us hl => match us, hl with | [_], _ => rfl
theorem sc__law_table : FnScope p__law_table.N p__law_table.ps (C8.fnScope p__law_table.st) := C8.fnScope_by (by decide +kernel)
theorem ir__law_table : cSs 200 ⟨p__law_table.N, C8.fnScope p__law_table.st, md.glk 18, true⟩ (C8.fnBody p__law_table.st) = some p__law_table.ir := by kernel_rfl
theorem bd__law_table : ∀ (kV doc pm : Value) (an : Option Addr) (cdv ct : Value) (us : List Value), us.length = p__law_table.ps.length → bindArgs (PySem.W.fnOf p__law_table.x (md.qual p__law_table) (C8.fnArgs p__law_table.st) (C8.fnBody p__law_table.st) (C8.fnScope p__law_table.st) .none kV doc pm an cdv ct) ⟨us, []⟩ = pure (p__law_table.ps.zip us) := fun _ _ _ _ _ _ us hl => match us, hl with | [_], _ => rfl
theorem sc__law_cell : FnScope p__law_cell.N p__law_cell.ps (C8.fnScope p__law_cell.st) := C8.fnScope_by (by decide +kernel)
theorem ir__law_cell : cSs 200 ⟨p__law_cell.N, C8.fnScope p__law_cell.st, md.glk 19, true⟩ (C8.fnBody p__law_cell.st) = some p__law_cell.ir := by kernel_rfl
theorem bd__law_cell : ∀ (kV doc pm : Value) (an : Option Addr) (cdv ct : Value) (us : List Value), us.length = p__law_cell.ps.length → bindArgs (PySem.W.fnOf p__law_cell.x (md.qual p__law_cell) (C8.fnArgs p__law_cell.st) (C8.fnBody p__law_cell.st) (C8.fnScope p__law_cell.st) .none kV doc pm an cdv ct) ⟨us, []⟩ = pure (p__law_cell.ps.zip us) := fun _ _ _ _ _ _ us hl => match us, hl with | [_, _], _ => rfl
theorem sc__law_digits : FnScope p__law_digits.N p__law_digits.ps (C8.fnScope p__law_digits.st) := C8.fnScope_by (by decide +kernel)
theorem ir__law_digits : cSs 200 ⟨p__law_digits.N, C8.fnScope p__law_digits.st, md.glk 20, true⟩ (C8.fnBody p__law_digits.st) = some p__law_digits.ir := by kernel_rfl
theorem bd__law_digits : ∀ (kV doc pm : Value) (an : Option Addr) (cdv ct : Value) (us : List Value), us.length = p__law_digits.ps.length → bindArgs (PySem.W.fnOf p__law_digits.x (md.qual p__law_digits) (C8.fnArgs p__law_digits.st) (C8.fnBody p__law_digits.st) (C8.fnScope p__law_digits.st) .none kV doc pm an cdv ct) ⟨us, []⟩ = pure (p__law_digits.ps.zip us) := fun _ _ _ _ _ _ us hl => match us, hl with | [_, _, _], _ => rfl
theorem sc_law : FnScope p_law.N p_law.ps (C8.fnScope p_law.st) := C8.fnScope_by (by decide +kernel)
theorem ir_law : cSs 200 ⟨p_law.N, C8.fnScope p_law.st, md.glk 21, true⟩ (C8.fnBody p_law.st) = some p_law.ir := by kernel_rfl
theorem bd_law : ∀ (kV doc pm : Value) (an : Option Addr) (cdv ct : Value) (us : List Value), us.length = p_law.ps.length → bindArgs (PySem.W.fnOf p_law.x (md.qual p_law) (C8.fnArgs p_law.st) (C8.fnBody p_law.st) (C8.fnScope p_law.st) .none kV doc pm an cdv ct) ⟨us, []⟩ = pure (p_law.ps.zip us) := fun _ _ _ _ _ _ us hl => match us, hl with | [_], _ => rfl
end K25
end
section
set_option Elab.async false
set_option linter.all false
set_option maxRecDepth 100000
set_option maxHeartbeats 0
namespace K25
open PySem L2 PyProof.Rows PySem.Spec L3
abbrev R : PySem.W.OpenRow := PySem.W.OpenLaw.row PySem.Challenge.rw_vatlink_k25_records_settle_once
def loose : List Str := ["SETTLED", "Tables", "put_out", "record_at", "put_record", "return_answer", "set_record", "_law_cell", "_law_digits", "_law_draw", "_law_same", "_law_low", "_law_half", "_law_sum", "_law_refs", "_law_distinct", "_law_begin", "_law_due", "_law_told", "_law_load", "_law_weight", "_law_atom", "_law_value", "_law_settled", "_law_outcome", "_law_table", "_law_all_far"]
theorem run (w : World) : HandSHeadRun.RunEq R (PySem.W.view R.prog [29]) (hookOf md) (obOf md) 4000 loose w := by
  intro os
  kernel_rfl
end K25
end
section
set_option autoImplicit false
set_option linter.all false
set_option maxRecDepth 100000
set_option maxHeartbeats 4000000
namespace K25
open L3
open PySem (Addr Str PyData NestedKey)

def spK (i : Nat) : L3.Spec := match i with
  | 0 => sp__law_draw
  | 1 => sp__law_same
  | 2 => sp__law_due
  | 3 => sp__law_told
  | 4 => sp_record_at
  | 5 => sp_put_out
  | 6 => sp_return_answer
  | 7 => sp_put_record
  | 8 => sp_set_record
  | 9 => sp__law_atom
  | 10 => sp__law_value
  | 11 => sp__law_settled
  | 12 => sp__law_weight
  | 13 => sp__law_outcome
  | 14 => sp__law_load
  | 15 => sp_Tables___init__
  | 16 => sp__law_all_far
  | 17 => sp__law_begin
  | 18 => sp__law_table
  | 19 => sp__law_cell
  | 20 => sp__law_digits
  | 21 => sp_law
  | _ => fun _ _ _ _ => False
def P0 : Pr := ⟨spK, md.fl, fun _ _ => none, fun _ => [], fun _ _ => false⟩
theorem hF : FlT P0 := by unfold FlT; decide +kernel
end K25
end
section
set_option autoImplicit false
set_option linter.all false
set_option maxRecDepth 100000
set_option maxHeartbeats 4000000
namespace K25
open L3
open PySem (Addr Str PyData NestedKey)
theorem ok__law_draw : Keeps P0 sp__law_draw 3 b__law_draw := by
  rintro ds M Q X ⟨b, d, m, rfl, hm, ⟨xs, at_, h1, h2, h3⟩, q⟩
  show wpSs P0 b__law_draw _ _ [some (.ref b), some (.int m), none] M
  unfold b__law_draw
  simp only [wpSs, wpS, wpE, wpEs, wpT, L3.w_add, L3.w_addS, L3.w_addT, L3.w_sub, L3.w_mul, L3.w_fdiv, L3.w_mod, L3.w_pow, L3.w_shl, L3.w_iadd, L3.w_isub, L3.w_neg, L3.w_lt, L3.w_le, L3.w_gt, L3.w_ge, L3.w_eq, L3.w_ne, L3.w_in, L3.w_nin, L3.w_tb, L3.w_ti, L3.w_tt, L3.w_ix0, L3.w_ix1, L3.w_ix2, L3.w_lenT, L3.w_lenK, L3.w_int, L3.w_intB, L3.w_max, L3.w_min, L3.w_rng1, L3.w_rng2, L3.w_one, L3.w_ixK, L3.w_itS, L3.w_lenS, L3.w_many, L3.w_eqS, L3.w_neS, L3.w_isN, L3.w_isNN, L3.w_itTup, List.getElem?_cons_zero, List.getElem?_cons_succ, List.set_cons_zero, List.set_cons_succ, Option.some.injEq, exists_eq_left', decide_eq_true_eq, Bool.false_eq_true, if_false, if_true, Bool.not_true, Bool.not_false, mokG, mokP, mokA, mokE, mokL, mokS, true_and, D.isNon, D.cn, wipeL]
  refine (w_ixL h1).mpr ⟨.int at_, rfl, ?_⟩
  simp only [wpSs, wpS, wpE, wpEs, wpT, L3.w_add, L3.w_addS, L3.w_addT, L3.w_sub, L3.w_mul, L3.w_fdiv, L3.w_mod, L3.w_pow, L3.w_shl, L3.w_iadd, L3.w_isub, L3.w_neg, L3.w_lt, L3.w_le, L3.w_gt, L3.w_ge, L3.w_eq, L3.w_ne, L3.w_in, L3.w_nin, L3.w_tb, L3.w_ti, L3.w_tt, L3.w_ix0, L3.w_ix1, L3.w_ix2, L3.w_lenT, L3.w_lenK, L3.w_int, L3.w_intB, L3.w_max, L3.w_min, L3.w_rng1, L3.w_rng2, L3.w_one, L3.w_ixK, L3.w_itS, L3.w_lenS, L3.w_many, L3.w_eqS, L3.w_neS, L3.w_isN, L3.w_isNN, L3.w_itTup, List.getElem?_cons_zero, List.getElem?_cons_succ, List.set_cons_zero, List.set_cons_succ, Option.some.injEq, exists_eq_left', decide_eq_true_eq, Bool.false_eq_true, if_false, if_true, Bool.not_true, Bool.not_false, mokG, mokP, mokA, mokE, mokL, mokS, true_and, D.isNon, D.cn, wipeL]
  refine (w_set h1).mpr ⟨⟨by decide, by show (1 : Int) < 2; decide⟩, ?_⟩
  have g1 : mset M b (.lst ([D.ref d, .int at_].set (Int.toNat 1) (.int ((at_ : Int) + 1)))) b = some (.lst [.ref d, .int ((at_ : Int) + 1)]) := mset_same
  have g2 : mset M b (.lst ([D.ref d, .int at_].set (Int.toNat 1) (.int ((at_ : Int) + 1)))) d = some (.lst (xs.map .int)) := (mset_ne h3.symm).trans h2
  have bx : BX (mset M b (.lst ([D.ref d, .int at_].set (Int.toNat 1) (.int ((at_ : Int) + 1))))) b d := ⟨xs, at_ + 1, g1, g2, h3⟩
  have bt : Fr (At b) M (mset M b (.lst ([D.ref d, .int at_].set (Int.toNat 1) (.int ((at_ : Int) + 1))))) := Fr.set rfl
  revert g1 g2 bx bt
  generalize mset M b (.lst ([D.ref d, .int at_].set (Int.toNat 1) (.int ((at_ : Int) + 1)))) = M1
  intro g1 g2 bx bt
  refine (w_ixL g1).mpr ⟨.ref d, rfl, ?_⟩
  refine (w_lenL g2).mpr ?_
  simp only [wpSs, wpS, wpE, wpEs, wpT, L3.w_add, L3.w_addS, L3.w_addT, L3.w_sub, L3.w_mul, L3.w_fdiv, L3.w_mod, L3.w_pow, L3.w_shl, L3.w_iadd, L3.w_isub, L3.w_neg, L3.w_lt, L3.w_le, L3.w_gt, L3.w_ge, L3.w_eq, L3.w_ne, L3.w_in, L3.w_nin, L3.w_tb, L3.w_ti, L3.w_tt, L3.w_ix0, L3.w_ix1, L3.w_ix2, L3.w_lenT, L3.w_lenK, L3.w_int, L3.w_intB, L3.w_max, L3.w_min, L3.w_rng1, L3.w_rng2, L3.w_one, L3.w_ixK, L3.w_itS, L3.w_lenS, L3.w_many, L3.w_eqS, L3.w_neS, L3.w_isN, L3.w_isNN, L3.w_itTup, List.getElem?_cons_zero, List.getElem?_cons_succ, List.set_cons_zero, List.set_cons_succ, Option.some.injEq, exists_eq_left', decide_eq_true_eq, Bool.false_eq_true, if_false, if_true, Bool.not_true, Bool.not_false, mokG, mokP, mokA, mokE, mokL, mokS, true_and, D.isNon, D.cn, wipeL]
  split
  · rename_i hlt
    have hk : at_ < xs.length := by simpa using hlt
    refine (w_ixL g1).mpr ⟨.ref d, rfl, ?_⟩
    refine (w_ixL g2).mpr ⟨.int xs[at_], atD_ints hk, ?_⟩
    simp only [wpSs, wpS, wpE, wpEs, wpT, L3.w_add, L3.w_addS, L3.w_addT, L3.w_sub, L3.w_mul, L3.w_fdiv, L3.w_mod, L3.w_pow, L3.w_shl, L3.w_iadd, L3.w_isub, L3.w_neg, L3.w_lt, L3.w_le, L3.w_gt, L3.w_ge, L3.w_eq, L3.w_ne, L3.w_in, L3.w_nin, L3.w_tb, L3.w_ti, L3.w_tt, L3.w_ix0, L3.w_ix1, L3.w_ix2, L3.w_lenT, L3.w_lenK, L3.w_int, L3.w_intB, L3.w_max, L3.w_min, L3.w_rng1, L3.w_rng2, L3.w_one, L3.w_ixK, L3.w_itS, L3.w_lenS, L3.w_many, L3.w_eqS, L3.w_neS, L3.w_isN, L3.w_isNN, L3.w_itTup, List.getElem?_cons_zero, List.getElem?_cons_succ, List.set_cons_zero, List.set_cons_succ, Option.some.injEq, exists_eq_left', decide_eq_true_eq, Bool.false_eq_true, if_false, if_true, Bool.not_true, Bool.not_false, mokG, mokP, mokA, mokE, mokL, mokS, true_and, D.isNon, D.cn, wipeL]
    exact ⟨hm, q _ _ (Int.emod_nonneg _ (by omega)) (Int.emod_lt_of_pos _ hm) bx bt⟩
  · exact ⟨mulK ⟨by decide, by decide⟩, hm, q _ _ (Int.emod_nonneg _ (by omega)) (Int.emod_lt_of_pos _ hm) bx bt⟩
end K25
end
section
set_option autoImplicit false
set_option linter.all false
set_option maxRecDepth 100000
set_option maxHeartbeats 4000000
namespace K25
open L3
open PySem (Addr Str PyData NestedKey)
theorem ok__law_same : Keeps P0 sp__law_same 2 b__law_same := by
  rintro ds M Q X ⟨d, e, p, rfl, h1, h2, ⟨h3, h4, h5⟩, q⟩
  show wpSs P0 b__law_same _ _ [some d, some e] M
  unfold b__law_same
  simp only [wpSs, wpS, wpE, wpEs, wpT, L3.w_add, L3.w_addS, L3.w_addT, L3.w_sub, L3.w_mul, L3.w_fdiv, L3.w_mod, L3.w_pow, L3.w_shl, L3.w_iadd, L3.w_isub, L3.w_neg, L3.w_lt, L3.w_le, L3.w_gt, L3.w_ge, L3.w_eq, L3.w_ne, L3.w_in, L3.w_nin, L3.w_tb, L3.w_ti, L3.w_tt, L3.w_ix0, L3.w_ix1, L3.w_ix2, L3.w_lenT, L3.w_lenK, L3.w_int, L3.w_intB, L3.w_max, L3.w_min, L3.w_rng1, L3.w_rng2, L3.w_one, L3.w_ixK, L3.w_itS, L3.w_lenS, L3.w_many, L3.w_eqS, L3.w_neS, L3.w_isN, L3.w_isNN, L3.w_itTup, List.getElem?_cons_zero, List.getElem?_cons_succ, List.set_cons_zero, List.set_cons_succ, Option.some.injEq, exists_eq_left', decide_eq_true_eq, Bool.false_eq_true, if_false, if_true, Bool.not_true, Bool.not_false, mokG, mokP, mokA, mokE, mokL, mokS, true_and, D.isNon, D.cn, wipeL]
  refine ⟨p, h1, h3, h4, h5, p, h2, h3, h4, h5, ?_⟩
  exact wpEq_same (x := .str p.shown) (M := M) (k := fun r => Q (.bl r) M) (fun _ z => nomatch z) rfl q
end K25
end
section
set_option autoImplicit false
set_option linter.all false
set_option maxRecDepth 100000
set_option maxHeartbeats 4000000
namespace K25
open L3
open PySem (Addr Str PyData NestedKey)
theorem ok__law_due : Keeps P0 sp__law_due 6 b__law_due := by
  rintro xs0 M Q X ⟨s, ls, S, n, m, rfl, T0, K, hlog, hv, q⟩
  show wpSs P0 b__law_due _ _ [some (.ref s), none, none, none, none, none] M
  unfold b__law_due
  simp only [wpSs, wpS, wpE, wpEs, wpT, L3.w_add, L3.w_addS, L3.w_addT, L3.w_sub, L3.w_mul, L3.w_fdiv, L3.w_mod, L3.w_pow, L3.w_shl, L3.w_iadd, L3.w_isub, L3.w_neg, L3.w_lt, L3.w_le, L3.w_gt, L3.w_ge, L3.w_eq, L3.w_ne, L3.w_in, L3.w_nin, L3.w_tb, L3.w_ti, L3.w_tt, L3.w_ix0, L3.w_ix1, L3.w_ix2, L3.w_lenT, L3.w_lenK, L3.w_int, L3.w_intB, L3.w_max, L3.w_min, L3.w_rng1, L3.w_rng2, L3.w_one, L3.w_ixK, L3.w_itS, L3.w_lenS, L3.w_many, L3.w_eqS, L3.w_neS, L3.w_isN, L3.w_isNN, L3.w_itTup, List.getElem?_cons_zero, List.getElem?_cons_succ, List.set_cons_zero, List.set_cons_succ, Option.some.injEq, exists_eq_left', decide_eq_true_eq, Bool.false_eq_true, if_false, if_true, Bool.not_true, Bool.not_false, mokG, mokP, mokA, mokE, mokL, mokS, true_and, D.isNon, D.cn, wipeL, T0.g_made, T0.g_sent, T0.g_asked, T0.g_held]
  have A0 : Al No M [] M := Al.nil fun _ w => w.elim
  refine ⟨by show 9 ≤ 2 ^ 24; decide, due_new A0 T0 fun a1 N1 A1 T1 => ?_⟩
  simp only [wpSs, wpS, wpE, wpEs, wpT, L3.w_add, L3.w_addS, L3.w_addT, L3.w_sub, L3.w_mul, L3.w_fdiv, L3.w_mod, L3.w_pow, L3.w_shl, L3.w_iadd, L3.w_isub, L3.w_neg, L3.w_lt, L3.w_le, L3.w_gt, L3.w_ge, L3.w_eq, L3.w_ne, L3.w_in, L3.w_nin, L3.w_tb, L3.w_ti, L3.w_tt, L3.w_ix0, L3.w_ix1, L3.w_ix2, L3.w_lenT, L3.w_lenK, L3.w_int, L3.w_intB, L3.w_max, L3.w_min, L3.w_rng1, L3.w_rng2, L3.w_one, L3.w_ixK, L3.w_itS, L3.w_lenS, L3.w_many, L3.w_eqS, L3.w_neS, L3.w_isN, L3.w_isNN, L3.w_itTup, List.getElem?_cons_zero, List.getElem?_cons_succ, List.set_cons_zero, List.set_cons_succ, Option.some.injEq, exists_eq_left', decide_eq_true_eq, Bool.false_eq_true, if_false, if_true, Bool.not_true, Bool.not_false, mokG, mokP, mokA, mokE, mokL, mokS, true_and, D.isNon, D.cn, wipeL, T1.g_made, T1.g_sent, T1.g_asked, T1.g_held]
  refine (w_liT T1.b_held).mpr (due_new A1 T1 fun a2 N2 A2 T2 => ?_)
  refine ⟨one4 _ _ _ _, due_new A2 T2 fun a3 N3 A3 T3 => ?_⟩
  refine ⟨by show 1 ≤ 2 ^ 24; decide, due_new A3 T3 fun a4 N4 A4 T4 => ?_⟩
  refine (w_itL (A4.at_ (a1, .lst [.str "objects", .str "promises", .str "answers", .str "lent", .str "known", .str "hoped", .str "places", .str "arrived", .str "pins"]) (by simp))).mpr ?_
  refine ⟨(A4.at_ (a1, .lst [.str "objects", .str "promises", .str "answers", .str "lent", .str "known", .str "hoped", .str "places", .str "arrived", .str "pins"]) (by simp)), ?_⟩
  simp only [wpSs, wpS, wpE, wpEs, wpT, L3.w_add, L3.w_addS, L3.w_addT, L3.w_sub, L3.w_mul, L3.w_fdiv, L3.w_mod, L3.w_pow, L3.w_shl, L3.w_iadd, L3.w_isub, L3.w_neg, L3.w_lt, L3.w_le, L3.w_gt, L3.w_ge, L3.w_eq, L3.w_ne, L3.w_in, L3.w_nin, L3.w_tb, L3.w_ti, L3.w_tt, L3.w_ix0, L3.w_ix1, L3.w_ix2, L3.w_lenT, L3.w_lenK, L3.w_int, L3.w_intB, L3.w_max, L3.w_min, L3.w_rng1, L3.w_rng2, L3.w_one, L3.w_ixK, L3.w_itS, L3.w_lenS, L3.w_many, L3.w_eqS, L3.w_neS, L3.w_isN, L3.w_isNN, L3.w_itTup, List.getElem?_cons_zero, List.getElem?_cons_succ, List.set_cons_zero, List.set_cons_succ, Option.some.injEq, exists_eq_left', decide_eq_true_eq, Bool.false_eq_true, if_false, if_true, Bool.not_true, Bool.not_false, mokG, mokP, mokA, mokE, mokL, mokS, true_and, D.isNon, D.cn, wipeL, T4.g_objects]
  refine (w_siD T4.b_objects).mpr ⟨K.objects.pairs KI.ok, due_new A4 T4 fun a5 N5 A5 T5 => ?_⟩
  refine ⟨by show 0 < 2 ^ 24; decide, ?_⟩
  refine ⟨(A5.at_ (a1, .lst [.str "objects", .str "promises", .str "answers", .str "lent", .str "known", .str "hoped", .str "places", .str "arrived", .str "pins"]) (by simp)), ?_⟩
  simp only [wpSs, wpS, wpE, wpEs, wpT, L3.w_add, L3.w_addS, L3.w_addT, L3.w_sub, L3.w_mul, L3.w_fdiv, L3.w_mod, L3.w_pow, L3.w_shl, L3.w_iadd, L3.w_isub, L3.w_neg, L3.w_lt, L3.w_le, L3.w_gt, L3.w_ge, L3.w_eq, L3.w_ne, L3.w_in, L3.w_nin, L3.w_tb, L3.w_ti, L3.w_tt, L3.w_ix0, L3.w_ix1, L3.w_ix2, L3.w_lenT, L3.w_lenK, L3.w_int, L3.w_intB, L3.w_max, L3.w_min, L3.w_rng1, L3.w_rng2, L3.w_one, L3.w_ixK, L3.w_itS, L3.w_lenS, L3.w_many, L3.w_eqS, L3.w_neS, L3.w_isN, L3.w_isNN, L3.w_itTup, List.getElem?_cons_zero, List.getElem?_cons_succ, List.set_cons_zero, List.set_cons_succ, Option.some.injEq, exists_eq_left', decide_eq_true_eq, Bool.false_eq_true, if_false, if_true, Bool.not_true, Bool.not_false, mokG, mokP, mokA, mokE, mokL, mokS, true_and, D.isNon, D.cn, wipeL, T5.g_promises]
  refine (w_siD T5.b_promises).mpr ⟨K.promises.pairs KI.ok, due_new A5 T5 fun a6 N6 A6 T6 => ?_⟩
  refine ⟨by show 1 < 2 ^ 24; decide, ?_⟩
  refine ⟨(A6.at_ (a1, .lst [.str "objects", .str "promises", .str "answers", .str "lent", .str "known", .str "hoped", .str "places", .str "arrived", .str "pins"]) (by simp)), ?_⟩
  simp only [wpSs, wpS, wpE, wpEs, wpT, L3.w_add, L3.w_addS, L3.w_addT, L3.w_sub, L3.w_mul, L3.w_fdiv, L3.w_mod, L3.w_pow, L3.w_shl, L3.w_iadd, L3.w_isub, L3.w_neg, L3.w_lt, L3.w_le, L3.w_gt, L3.w_ge, L3.w_eq, L3.w_ne, L3.w_in, L3.w_nin, L3.w_tb, L3.w_ti, L3.w_tt, L3.w_ix0, L3.w_ix1, L3.w_ix2, L3.w_lenT, L3.w_lenK, L3.w_int, L3.w_intB, L3.w_max, L3.w_min, L3.w_rng1, L3.w_rng2, L3.w_one, L3.w_ixK, L3.w_itS, L3.w_lenS, L3.w_many, L3.w_eqS, L3.w_neS, L3.w_isN, L3.w_isNN, L3.w_itTup, List.getElem?_cons_zero, List.getElem?_cons_succ, List.set_cons_zero, List.set_cons_succ, Option.some.injEq, exists_eq_left', decide_eq_true_eq, Bool.false_eq_true, if_false, if_true, Bool.not_true, Bool.not_false, mokG, mokP, mokA, mokE, mokL, mokS, true_and, D.isNon, D.cn, wipeL, T6.g_answers]
  refine (w_siT T6.b_answers).mpr ⟨K.answers.pairs KP.ok, due_new A6 T6 fun a7 N7 A7 T7 => ?_⟩
  refine ⟨by show 2 < 2 ^ 24; decide, ?_⟩
  refine ⟨(A7.at_ (a1, .lst [.str "objects", .str "promises", .str "answers", .str "lent", .str "known", .str "hoped", .str "places", .str "arrived", .str "pins"]) (by simp)), ?_⟩
  simp only [wpSs, wpS, wpE, wpEs, wpT, L3.w_add, L3.w_addS, L3.w_addT, L3.w_sub, L3.w_mul, L3.w_fdiv, L3.w_mod, L3.w_pow, L3.w_shl, L3.w_iadd, L3.w_isub, L3.w_neg, L3.w_lt, L3.w_le, L3.w_gt, L3.w_ge, L3.w_eq, L3.w_ne, L3.w_in, L3.w_nin, L3.w_tb, L3.w_ti, L3.w_tt, L3.w_ix0, L3.w_ix1, L3.w_ix2, L3.w_lenT, L3.w_lenK, L3.w_int, L3.w_intB, L3.w_max, L3.w_min, L3.w_rng1, L3.w_rng2, L3.w_one, L3.w_ixK, L3.w_itS, L3.w_lenS, L3.w_many, L3.w_eqS, L3.w_neS, L3.w_isN, L3.w_isNN, L3.w_itTup, List.getElem?_cons_zero, List.getElem?_cons_succ, List.set_cons_zero, List.set_cons_succ, Option.some.injEq, exists_eq_left', decide_eq_true_eq, Bool.false_eq_true, if_false, if_true, Bool.not_true, Bool.not_false, mokG, mokP, mokA, mokE, mokL, mokS, true_and, D.isNon, D.cn, wipeL, T7.g_lent]
  refine (w_siT T7.b_lent).mpr ⟨K.lent.pairs KR.ok, due_new A7 T7 fun a8 N8 A8 T8 => ?_⟩
  refine ⟨by show 3 < 2 ^ 24; decide, ?_⟩
  refine ⟨(A8.at_ (a1, .lst [.str "objects", .str "promises", .str "answers", .str "lent", .str "known", .str "hoped", .str "places", .str "arrived", .str "pins"]) (by simp)), ?_⟩
  simp only [wpSs, wpS, wpE, wpEs, wpT, L3.w_add, L3.w_addS, L3.w_addT, L3.w_sub, L3.w_mul, L3.w_fdiv, L3.w_mod, L3.w_pow, L3.w_shl, L3.w_iadd, L3.w_isub, L3.w_neg, L3.w_lt, L3.w_le, L3.w_gt, L3.w_ge, L3.w_eq, L3.w_ne, L3.w_in, L3.w_nin, L3.w_tb, L3.w_ti, L3.w_tt, L3.w_ix0, L3.w_ix1, L3.w_ix2, L3.w_lenT, L3.w_lenK, L3.w_int, L3.w_intB, L3.w_max, L3.w_min, L3.w_rng1, L3.w_rng2, L3.w_one, L3.w_ixK, L3.w_itS, L3.w_lenS, L3.w_many, L3.w_eqS, L3.w_neS, L3.w_isN, L3.w_isNN, L3.w_itTup, List.getElem?_cons_zero, List.getElem?_cons_succ, List.set_cons_zero, List.set_cons_succ, Option.some.injEq, exists_eq_left', decide_eq_true_eq, Bool.false_eq_true, if_false, if_true, Bool.not_true, Bool.not_false, mokG, mokP, mokA, mokE, mokL, mokS, true_and, D.isNon, D.cn, wipeL, T8.g_known]
  refine (w_siT T8.b_known).mpr ⟨K.known.pairs KR.ok, due_new A8 T8 fun a9 N9 A9 T9 => ?_⟩
  refine ⟨by show 4 < 2 ^ 24; decide, ?_⟩
  refine ⟨(A9.at_ (a1, .lst [.str "objects", .str "promises", .str "answers", .str "lent", .str "known", .str "hoped", .str "places", .str "arrived", .str "pins"]) (by simp)), ?_⟩
  simp only [wpSs, wpS, wpE, wpEs, wpT, L3.w_add, L3.w_addS, L3.w_addT, L3.w_sub, L3.w_mul, L3.w_fdiv, L3.w_mod, L3.w_pow, L3.w_shl, L3.w_iadd, L3.w_isub, L3.w_neg, L3.w_lt, L3.w_le, L3.w_gt, L3.w_ge, L3.w_eq, L3.w_ne, L3.w_in, L3.w_nin, L3.w_tb, L3.w_ti, L3.w_tt, L3.w_ix0, L3.w_ix1, L3.w_ix2, L3.w_lenT, L3.w_lenK, L3.w_int, L3.w_intB, L3.w_max, L3.w_min, L3.w_rng1, L3.w_rng2, L3.w_one, L3.w_ixK, L3.w_itS, L3.w_lenS, L3.w_many, L3.w_eqS, L3.w_neS, L3.w_isN, L3.w_isNN, L3.w_itTup, List.getElem?_cons_zero, List.getElem?_cons_succ, List.set_cons_zero, List.set_cons_succ, Option.some.injEq, exists_eq_left', decide_eq_true_eq, Bool.false_eq_true, if_false, if_true, Bool.not_true, Bool.not_false, mokG, mokP, mokA, mokE, mokL, mokS, true_and, D.isNon, D.cn, wipeL, T9.g_hoped]
  refine (w_siT T9.b_hoped).mpr ⟨K.hoped.pairs KR.ok, due_new A9 T9 fun a10 N10 A10 T10 => ?_⟩
  refine ⟨by show 5 < 2 ^ 24; decide, ?_⟩
  refine ⟨(A10.at_ (a1, .lst [.str "objects", .str "promises", .str "answers", .str "lent", .str "known", .str "hoped", .str "places", .str "arrived", .str "pins"]) (by simp)), ?_⟩
  simp only [wpSs, wpS, wpE, wpEs, wpT, L3.w_add, L3.w_addS, L3.w_addT, L3.w_sub, L3.w_mul, L3.w_fdiv, L3.w_mod, L3.w_pow, L3.w_shl, L3.w_iadd, L3.w_isub, L3.w_neg, L3.w_lt, L3.w_le, L3.w_gt, L3.w_ge, L3.w_eq, L3.w_ne, L3.w_in, L3.w_nin, L3.w_tb, L3.w_ti, L3.w_tt, L3.w_ix0, L3.w_ix1, L3.w_ix2, L3.w_lenT, L3.w_lenK, L3.w_int, L3.w_intB, L3.w_max, L3.w_min, L3.w_rng1, L3.w_rng2, L3.w_one, L3.w_ixK, L3.w_itS, L3.w_lenS, L3.w_many, L3.w_eqS, L3.w_neS, L3.w_isN, L3.w_isNN, L3.w_itTup, List.getElem?_cons_zero, List.getElem?_cons_succ, List.set_cons_zero, List.set_cons_succ, Option.some.injEq, exists_eq_left', decide_eq_true_eq, Bool.false_eq_true, if_false, if_true, Bool.not_true, Bool.not_false, mokG, mokP, mokA, mokE, mokL, mokS, true_and, D.isNon, D.cn, wipeL, T10.g_places]
  refine (w_siT T10.b_places).mpr ⟨K.places.pairs KR.ok, due_new A10 T10 fun a11 N11 A11 T11 => ?_⟩
  refine ⟨by show 6 < 2 ^ 24; decide, ?_⟩
  refine ⟨(A11.at_ (a1, .lst [.str "objects", .str "promises", .str "answers", .str "lent", .str "known", .str "hoped", .str "places", .str "arrived", .str "pins"]) (by simp)), ?_⟩
  simp only [wpSs, wpS, wpE, wpEs, wpT, L3.w_add, L3.w_addS, L3.w_addT, L3.w_sub, L3.w_mul, L3.w_fdiv, L3.w_mod, L3.w_pow, L3.w_shl, L3.w_iadd, L3.w_isub, L3.w_neg, L3.w_lt, L3.w_le, L3.w_gt, L3.w_ge, L3.w_eq, L3.w_ne, L3.w_in, L3.w_nin, L3.w_tb, L3.w_ti, L3.w_tt, L3.w_ix0, L3.w_ix1, L3.w_ix2, L3.w_lenT, L3.w_lenK, L3.w_int, L3.w_intB, L3.w_max, L3.w_min, L3.w_rng1, L3.w_rng2, L3.w_one, L3.w_ixK, L3.w_itS, L3.w_lenS, L3.w_many, L3.w_eqS, L3.w_neS, L3.w_isN, L3.w_isNN, L3.w_itTup, List.getElem?_cons_zero, List.getElem?_cons_succ, List.set_cons_zero, List.set_cons_succ, Option.some.injEq, exists_eq_left', decide_eq_true_eq, Bool.false_eq_true, if_false, if_true, Bool.not_true, Bool.not_false, mokG, mokP, mokA, mokE, mokL, mokS, true_and, D.isNon, D.cn, wipeL, T11.g_arrived]
  refine (w_siT T11.b_arrived).mpr ⟨K.arrived.pairs KP.ok, due_new A11 T11 fun a12 N12 A12 T12 => ?_⟩
  refine ⟨by show 7 < 2 ^ 24; decide, ?_⟩
  refine ⟨(A12.at_ (a1, .lst [.str "objects", .str "promises", .str "answers", .str "lent", .str "known", .str "hoped", .str "places", .str "arrived", .str "pins"]) (by simp)), ?_⟩
  simp only [wpSs, wpS, wpE, wpEs, wpT, L3.w_add, L3.w_addS, L3.w_addT, L3.w_sub, L3.w_mul, L3.w_fdiv, L3.w_mod, L3.w_pow, L3.w_shl, L3.w_iadd, L3.w_isub, L3.w_neg, L3.w_lt, L3.w_le, L3.w_gt, L3.w_ge, L3.w_eq, L3.w_ne, L3.w_in, L3.w_nin, L3.w_tb, L3.w_ti, L3.w_tt, L3.w_ix0, L3.w_ix1, L3.w_ix2, L3.w_lenT, L3.w_lenK, L3.w_int, L3.w_intB, L3.w_max, L3.w_min, L3.w_rng1, L3.w_rng2, L3.w_one, L3.w_ixK, L3.w_itS, L3.w_lenS, L3.w_many, L3.w_eqS, L3.w_neS, L3.w_isN, L3.w_isNN, L3.w_itTup, List.getElem?_cons_zero, List.getElem?_cons_succ, List.set_cons_zero, List.set_cons_succ, Option.some.injEq, exists_eq_left', decide_eq_true_eq, Bool.false_eq_true, if_false, if_true, Bool.not_true, Bool.not_false, mokG, mokP, mokA, mokE, mokL, mokS, true_and, D.isNon, D.cn, wipeL, T12.g_pins]
  refine (w_siT T12.b_pins).mpr ⟨K.pins.pairs KR.ok, due_new A12 T12 fun a13 N13 A13 T13 => ?_⟩
  refine ⟨by show 8 < 2 ^ 24; decide, ?_⟩
  refine ⟨(A13.at_ (a1, .lst [.str "objects", .str "promises", .str "answers", .str "lent", .str "known", .str "hoped", .str "places", .str "arrived", .str "pins"]) (by simp)), ?_⟩
  refine (due_new A13 T13 fun a14 N14 A14 T14 => ?_)
  refine (w_addL (A14.at_ (a4, .lst [.ref a3]) (by simp)) (A14.at_ (a14, .lst [.ref a5, .ref a6, .ref a7, .ref a8, .ref a9, .ref a10, .ref a11, .ref a12, .ref a13]) (by simp))).mpr ⟨by show 10 ≤ 2 ^ 24; decide, due_new A14 T14 fun a15 N15 A15 T15 => ?_⟩
  refine ⟨by show 8 ≤ 2 ^ 24; decide, due_new A15 T15 fun a16 N16 A16 T16 => ?_⟩
  refine (w_itL (A16.at_ (a16, .lst [.str "queue", .str "parked", .str "early", .str "waiting", .str "listeners", .str "transfers", .str "out", .str "log"]) (by simp))).mpr ?_
  refine ⟨(A16.at_ (a16, .lst [.str "queue", .str "parked", .str "early", .str "waiting", .str "listeners", .str "transfers", .str "out", .str "log"]) (by simp)), ?_⟩
  simp only [wpSs, wpS, wpE, wpEs, wpT, L3.w_add, L3.w_addS, L3.w_addT, L3.w_sub, L3.w_mul, L3.w_fdiv, L3.w_mod, L3.w_pow, L3.w_shl, L3.w_iadd, L3.w_isub, L3.w_neg, L3.w_lt, L3.w_le, L3.w_gt, L3.w_ge, L3.w_eq, L3.w_ne, L3.w_in, L3.w_nin, L3.w_tb, L3.w_ti, L3.w_tt, L3.w_ix0, L3.w_ix1, L3.w_ix2, L3.w_lenT, L3.w_lenK, L3.w_int, L3.w_intB, L3.w_max, L3.w_min, L3.w_rng1, L3.w_rng2, L3.w_one, L3.w_ixK, L3.w_itS, L3.w_lenS, L3.w_many, L3.w_eqS, L3.w_neS, L3.w_isN, L3.w_isNN, L3.w_itTup, List.getElem?_cons_zero, List.getElem?_cons_succ, List.set_cons_zero, List.set_cons_succ, Option.some.injEq, exists_eq_left', decide_eq_true_eq, Bool.false_eq_true, if_false, if_true, Bool.not_true, Bool.not_false, mokG, mokP, mokA, mokE, mokL, mokS, true_and, D.isNon, D.cn, wipeL, T16.g_queue]
  refine ⟨by show 0 < 2 ^ 24; decide, ?_⟩
  refine ⟨(A16.at_ (a16, .lst [.str "queue", .str "parked", .str "early", .str "waiting", .str "listeners", .str "transfers", .str "out", .str "log"]) (by simp)), ?_⟩
  simp only [wpSs, wpS, wpE, wpEs, wpT, L3.w_add, L3.w_addS, L3.w_addT, L3.w_sub, L3.w_mul, L3.w_fdiv, L3.w_mod, L3.w_pow, L3.w_shl, L3.w_iadd, L3.w_isub, L3.w_neg, L3.w_lt, L3.w_le, L3.w_gt, L3.w_ge, L3.w_eq, L3.w_ne, L3.w_in, L3.w_nin, L3.w_tb, L3.w_ti, L3.w_tt, L3.w_ix0, L3.w_ix1, L3.w_ix2, L3.w_lenT, L3.w_lenK, L3.w_int, L3.w_intB, L3.w_max, L3.w_min, L3.w_rng1, L3.w_rng2, L3.w_one, L3.w_ixK, L3.w_itS, L3.w_lenS, L3.w_many, L3.w_eqS, L3.w_neS, L3.w_isN, L3.w_isNN, L3.w_itTup, List.getElem?_cons_zero, List.getElem?_cons_succ, List.set_cons_zero, List.set_cons_succ, Option.some.injEq, exists_eq_left', decide_eq_true_eq, Bool.false_eq_true, if_false, if_true, Bool.not_true, Bool.not_false, mokG, mokP, mokA, mokE, mokL, mokS, true_and, D.isNon, D.cn, wipeL, T16.g_parked]
  refine ⟨by show 1 < 2 ^ 24; decide, ?_⟩
  refine ⟨(A16.at_ (a16, .lst [.str "queue", .str "parked", .str "early", .str "waiting", .str "listeners", .str "transfers", .str "out", .str "log"]) (by simp)), ?_⟩
  simp only [wpSs, wpS, wpE, wpEs, wpT, L3.w_add, L3.w_addS, L3.w_addT, L3.w_sub, L3.w_mul, L3.w_fdiv, L3.w_mod, L3.w_pow, L3.w_shl, L3.w_iadd, L3.w_isub, L3.w_neg, L3.w_lt, L3.w_le, L3.w_gt, L3.w_ge, L3.w_eq, L3.w_ne, L3.w_in, L3.w_nin, L3.w_tb, L3.w_ti, L3.w_tt, L3.w_ix0, L3.w_ix1, L3.w_ix2, L3.w_lenT, L3.w_lenK, L3.w_int, L3.w_intB, L3.w_max, L3.w_min, L3.w_rng1, L3.w_rng2, L3.w_one, L3.w_ixK, L3.w_itS, L3.w_lenS, L3.w_many, L3.w_eqS, L3.w_neS, L3.w_isN, L3.w_isNN, L3.w_itTup, List.getElem?_cons_zero, List.getElem?_cons_succ, List.set_cons_zero, List.set_cons_succ, Option.some.injEq, exists_eq_left', decide_eq_true_eq, Bool.false_eq_true, if_false, if_true, Bool.not_true, Bool.not_false, mokG, mokP, mokA, mokE, mokL, mokS, true_and, D.isNon, D.cn, wipeL, T16.g_early]
  refine ⟨by show 2 < 2 ^ 24; decide, ?_⟩
  refine ⟨(A16.at_ (a16, .lst [.str "queue", .str "parked", .str "early", .str "waiting", .str "listeners", .str "transfers", .str "out", .str "log"]) (by simp)), ?_⟩
  simp only [wpSs, wpS, wpE, wpEs, wpT, L3.w_add, L3.w_addS, L3.w_addT, L3.w_sub, L3.w_mul, L3.w_fdiv, L3.w_mod, L3.w_pow, L3.w_shl, L3.w_iadd, L3.w_isub, L3.w_neg, L3.w_lt, L3.w_le, L3.w_gt, L3.w_ge, L3.w_eq, L3.w_ne, L3.w_in, L3.w_nin, L3.w_tb, L3.w_ti, L3.w_tt, L3.w_ix0, L3.w_ix1, L3.w_ix2, L3.w_lenT, L3.w_lenK, L3.w_int, L3.w_intB, L3.w_max, L3.w_min, L3.w_rng1, L3.w_rng2, L3.w_one, L3.w_ixK, L3.w_itS, L3.w_lenS, L3.w_many, L3.w_eqS, L3.w_neS, L3.w_isN, L3.w_isNN, L3.w_itTup, List.getElem?_cons_zero, List.getElem?_cons_succ, List.set_cons_zero, List.set_cons_succ, Option.some.injEq, exists_eq_left', decide_eq_true_eq, Bool.false_eq_true, if_false, if_true, Bool.not_true, Bool.not_false, mokG, mokP, mokA, mokE, mokL, mokS, true_and, D.isNon, D.cn, wipeL, T16.g_waiting]
  refine ⟨by show 3 < 2 ^ 24; decide, ?_⟩
  refine ⟨(A16.at_ (a16, .lst [.str "queue", .str "parked", .str "early", .str "waiting", .str "listeners", .str "transfers", .str "out", .str "log"]) (by simp)), ?_⟩
  simp only [wpSs, wpS, wpE, wpEs, wpT, L3.w_add, L3.w_addS, L3.w_addT, L3.w_sub, L3.w_mul, L3.w_fdiv, L3.w_mod, L3.w_pow, L3.w_shl, L3.w_iadd, L3.w_isub, L3.w_neg, L3.w_lt, L3.w_le, L3.w_gt, L3.w_ge, L3.w_eq, L3.w_ne, L3.w_in, L3.w_nin, L3.w_tb, L3.w_ti, L3.w_tt, L3.w_ix0, L3.w_ix1, L3.w_ix2, L3.w_lenT, L3.w_lenK, L3.w_int, L3.w_intB, L3.w_max, L3.w_min, L3.w_rng1, L3.w_rng2, L3.w_one, L3.w_ixK, L3.w_itS, L3.w_lenS, L3.w_many, L3.w_eqS, L3.w_neS, L3.w_isN, L3.w_isNN, L3.w_itTup, List.getElem?_cons_zero, List.getElem?_cons_succ, List.set_cons_zero, List.set_cons_succ, Option.some.injEq, exists_eq_left', decide_eq_true_eq, Bool.false_eq_true, if_false, if_true, Bool.not_true, Bool.not_false, mokG, mokP, mokA, mokE, mokL, mokS, true_and, D.isNon, D.cn, wipeL, T16.g_listeners]
  refine ⟨by show 4 < 2 ^ 24; decide, ?_⟩
  refine ⟨(A16.at_ (a16, .lst [.str "queue", .str "parked", .str "early", .str "waiting", .str "listeners", .str "transfers", .str "out", .str "log"]) (by simp)), ?_⟩
  simp only [wpSs, wpS, wpE, wpEs, wpT, L3.w_add, L3.w_addS, L3.w_addT, L3.w_sub, L3.w_mul, L3.w_fdiv, L3.w_mod, L3.w_pow, L3.w_shl, L3.w_iadd, L3.w_isub, L3.w_neg, L3.w_lt, L3.w_le, L3.w_gt, L3.w_ge, L3.w_eq, L3.w_ne, L3.w_in, L3.w_nin, L3.w_tb, L3.w_ti, L3.w_tt, L3.w_ix0, L3.w_ix1, L3.w_ix2, L3.w_lenT, L3.w_lenK, L3.w_int, L3.w_intB, L3.w_max, L3.w_min, L3.w_rng1, L3.w_rng2, L3.w_one, L3.w_ixK, L3.w_itS, L3.w_lenS, L3.w_many, L3.w_eqS, L3.w_neS, L3.w_isN, L3.w_isNN, L3.w_itTup, List.getElem?_cons_zero, List.getElem?_cons_succ, List.set_cons_zero, List.set_cons_succ, Option.some.injEq, exists_eq_left', decide_eq_true_eq, Bool.false_eq_true, if_false, if_true, Bool.not_true, Bool.not_false, mokG, mokP, mokA, mokE, mokL, mokS, true_and, D.isNon, D.cn, wipeL, T16.g_transfers]
  refine ⟨by show 5 < 2 ^ 24; decide, ?_⟩
  refine ⟨(A16.at_ (a16, .lst [.str "queue", .str "parked", .str "early", .str "waiting", .str "listeners", .str "transfers", .str "out", .str "log"]) (by simp)), ?_⟩
  simp only [wpSs, wpS, wpE, wpEs, wpT, L3.w_add, L3.w_addS, L3.w_addT, L3.w_sub, L3.w_mul, L3.w_fdiv, L3.w_mod, L3.w_pow, L3.w_shl, L3.w_iadd, L3.w_isub, L3.w_neg, L3.w_lt, L3.w_le, L3.w_gt, L3.w_ge, L3.w_eq, L3.w_ne, L3.w_in, L3.w_nin, L3.w_tb, L3.w_ti, L3.w_tt, L3.w_ix0, L3.w_ix1, L3.w_ix2, L3.w_lenT, L3.w_lenK, L3.w_int, L3.w_intB, L3.w_max, L3.w_min, L3.w_rng1, L3.w_rng2, L3.w_one, L3.w_ixK, L3.w_itS, L3.w_lenS, L3.w_many, L3.w_eqS, L3.w_neS, L3.w_isN, L3.w_isNN, L3.w_itTup, List.getElem?_cons_zero, List.getElem?_cons_succ, List.set_cons_zero, List.set_cons_succ, Option.some.injEq, exists_eq_left', decide_eq_true_eq, Bool.false_eq_true, if_false, if_true, Bool.not_true, Bool.not_false, mokG, mokP, mokA, mokE, mokL, mokS, true_and, D.isNon, D.cn, wipeL, T16.g_out]
  refine ⟨by show 6 < 2 ^ 24; decide, ?_⟩
  refine ⟨(A16.at_ (a16, .lst [.str "queue", .str "parked", .str "early", .str "waiting", .str "listeners", .str "transfers", .str "out", .str "log"]) (by simp)), ?_⟩
  simp only [wpSs, wpS, wpE, wpEs, wpT, L3.w_add, L3.w_addS, L3.w_addT, L3.w_sub, L3.w_mul, L3.w_fdiv, L3.w_mod, L3.w_pow, L3.w_shl, L3.w_iadd, L3.w_isub, L3.w_neg, L3.w_lt, L3.w_le, L3.w_gt, L3.w_ge, L3.w_eq, L3.w_ne, L3.w_in, L3.w_nin, L3.w_tb, L3.w_ti, L3.w_tt, L3.w_ix0, L3.w_ix1, L3.w_ix2, L3.w_lenT, L3.w_lenK, L3.w_int, L3.w_intB, L3.w_max, L3.w_min, L3.w_rng1, L3.w_rng2, L3.w_one, L3.w_ixK, L3.w_itS, L3.w_lenS, L3.w_many, L3.w_eqS, L3.w_neS, L3.w_isN, L3.w_isNN, L3.w_itTup, List.getElem?_cons_zero, List.getElem?_cons_succ, List.set_cons_zero, List.set_cons_succ, Option.some.injEq, exists_eq_left', decide_eq_true_eq, Bool.false_eq_true, if_false, if_true, Bool.not_true, Bool.not_false, mokG, mokP, mokA, mokE, mokL, mokS, true_and, D.isNon, D.cn, wipeL, T16.g_log]
  refine ⟨by show 7 < 2 ^ 24; decide, ?_⟩
  refine ⟨(A16.at_ (a16, .lst [.str "queue", .str "parked", .str "early", .str "waiting", .str "listeners", .str "transfers", .str "out", .str "log"]) (by simp)), ?_⟩
  refine (due_new A16 T16 fun a17 N17 A17 T17 => ?_)
  refine (w_addL (A17.at_ (a15, .lst ([.ref a3] ++ [.ref a5, .ref a6, .ref a7, .ref a8, .ref a9, .ref a10, .ref a11, .ref a12, .ref a13])) (by simp)) (A17.at_ (a17, .lst [.ref (ls .queue), .ref (ls .parked), .ref (ls .early), .ref (ls .waiting), .ref (ls .listeners), .ref (ls .transfers), .ref (ls .out), .ref (ls .log)]) (by simp))).mpr ⟨by show 18 ≤ 2 ^ 24; decide, due_new A17 T17 fun a18 N18 A18 T18 => ?_⟩
  simp only [wpSs, wpS, wpE, wpEs, wpT, L3.w_add, L3.w_addS, L3.w_addT, L3.w_sub, L3.w_mul, L3.w_fdiv, L3.w_mod, L3.w_pow, L3.w_shl, L3.w_iadd, L3.w_isub, L3.w_neg, L3.w_lt, L3.w_le, L3.w_gt, L3.w_ge, L3.w_eq, L3.w_ne, L3.w_in, L3.w_nin, L3.w_tb, L3.w_ti, L3.w_tt, L3.w_ix0, L3.w_ix1, L3.w_ix2, L3.w_lenT, L3.w_lenK, L3.w_int, L3.w_intB, L3.w_max, L3.w_min, L3.w_rng1, L3.w_rng2, L3.w_one, L3.w_ixK, L3.w_itS, L3.w_lenS, L3.w_many, L3.w_eqS, L3.w_neS, L3.w_isN, L3.w_isNN, L3.w_itTup, List.getElem?_cons_zero, List.getElem?_cons_succ, List.set_cons_zero, List.set_cons_succ, Option.some.injEq, exists_eq_left', decide_eq_true_eq, Bool.false_eq_true, if_false, if_true, Bool.not_true, Bool.not_false, mokG, mokP, mokA, mokE, mokL, mokS, true_and, D.isNon, D.cn, wipeL, T18.g_log]
  refine (w_itL T18.b_log).mpr (compL_pure (fun _ => some (.int S.vat)) T18.b_log ?_ (by show 0 + S.log.length ≤ 2 ^ 24; omega) ?_)
  · intro x hx kk h
    simp only [wpSs, wpS, wpE, wpEs, wpT, L3.w_add, L3.w_addS, L3.w_addT, L3.w_sub, L3.w_mul, L3.w_fdiv, L3.w_mod, L3.w_pow, L3.w_shl, L3.w_iadd, L3.w_isub, L3.w_neg, L3.w_lt, L3.w_le, L3.w_gt, L3.w_ge, L3.w_eq, L3.w_ne, L3.w_in, L3.w_nin, L3.w_tb, L3.w_ti, L3.w_tt, L3.w_ix0, L3.w_ix1, L3.w_ix2, L3.w_lenT, L3.w_lenK, L3.w_int, L3.w_intB, L3.w_max, L3.w_min, L3.w_rng1, L3.w_rng2, L3.w_one, L3.w_ixK, L3.w_itS, L3.w_lenS, L3.w_many, L3.w_eqS, L3.w_neS, L3.w_isN, L3.w_isNN, L3.w_itTup, List.getElem?_cons_zero, List.getElem?_cons_succ, List.set_cons_zero, List.set_cons_succ, Option.some.injEq, exists_eq_left', decide_eq_true_eq, Bool.false_eq_true, if_false, if_true, Bool.not_true, Bool.not_false, mokG, mokP, mokA, mokE, mokL, mokS, true_and, D.isNon, D.cn, wipeL, T18.g_vat]
    exact h
  rw [List.nil_append, fm_const]
  refine (due_new A18 T18 fun a19 N19 A19 T19 => ?_)
  refine ⟨by show 1 ≤ 2 ^ 24; decide, due_new A19 T19 fun a20 N20 A20 T20 => ?_⟩
  refine (w_addL (A20.at_ (a18, .lst (([.ref a3] ++ [.ref a5, .ref a6, .ref a7, .ref a8, .ref a9, .ref a10, .ref a11, .ref a12, .ref a13]) ++ [.ref (ls .queue), .ref (ls .parked), .ref (ls .early), .ref (ls .waiting), .ref (ls .listeners), .ref (ls .transfers), .ref (ls .out), .ref (ls .log)])) (by simp)) (A20.at_ (a20, .lst [.ref a19]) (by simp))).mpr ⟨by show 19 ≤ 2 ^ 24; decide, due_new A20 T20 fun a21 N21 A21 T21 => ?_⟩
  refine q _ _ (.lst (A21.at_ (a21, .lst ((([.ref a3] ++ [.ref a5, .ref a6, .ref a7, .ref a8, .ref a9, .ref a10, .ref a11, .ref a12, .ref a13]) ++ [.ref (ls .queue), .ref (ls .parked), .ref (ls .early), .ref (ls .waiting), .ref (ls .listeners), .ref (ls .transfers), .ref (ls .out), .ref (ls .log)]) ++ [.ref a19])) (by simp)) ?_) A21.fr
  exact (.cons (.lst (A21.at_ (a3, .lst [.int S.made, .int S.sent, .int S.asked, .ref a2]) (by simp)) (.cons (.int _) (.cons (.int _) (.cons (.int _) (.cons (deep_row (A21.at_ (a2, .lst (S.held.map pairD)) (by simp)) (K.held.list KR.ok).1) .nil))))) (.cons (deep_row (A21.at_ (a5, .lst ((srtP S.objects).map pairD)) (by simp)) (K.objects.slist KI.ok).1) (.cons (deep_row (A21.at_ (a6, .lst ((srtP S.promises).map pairD)) (by simp)) (K.promises.slist KI.ok).1) (.cons (deep_row (A21.at_ (a7, .lst ((srtP S.answers).map pairD)) (by simp)) (K.answers.slist KP.ok).1) (.cons (deep_row (A21.at_ (a8, .lst ((srtP S.lent).map pairD)) (by simp)) (K.lent.slist KR.ok).1) (.cons (deep_row (A21.at_ (a9, .lst ((srtP S.known).map pairD)) (by simp)) (K.known.slist KR.ok).1) (.cons (deep_row (A21.at_ (a10, .lst ((srtP S.hoped).map pairD)) (by simp)) (K.hoped.slist KR.ok).1) (.cons (deep_row (A21.at_ (a11, .lst ((srtP S.places).map pairD)) (by simp)) (K.places.slist KR.ok).1) (.cons (deep_row (A21.at_ (a12, .lst ((srtP S.arrived).map pairD)) (by simp)) (K.arrived.slist KP.ok).1) (.cons (deep_row (A21.at_ (a13, .lst ((srtP S.pins).map pairD)) (by simp)) (K.pins.slist KR.ok).1) (.cons (deep_row T21.b_queue (row_at K (l := S.queue) (by simp [Tb.ls1]))) (.cons (deep_row T21.b_parked (row_at K (l := S.parked) (by simp [Tb.ls1]))) (.cons (deep_row T21.b_early (row_at K (l := S.early) (by simp [Tb.ls1]))) (.cons (deep_row T21.b_waiting (row_at K (l := S.waiting) (by simp [Tb.ls1]))) (.cons (deep_row T21.b_listeners (row_at K (l := S.listeners) (by simp [Tb.ls1]))) (.cons (deep_row T21.b_transfers (row_at K (l := S.transfers) (by simp [Tb.ls1]))) (.cons (deep_row T21.b_out (row_at K (l := S.out) (by simp [Tb.ls1]))) (.cons (deep_row T21.b_log (row_at K (l := S.log) (by simp [Tb.ls1]))) (.cons (deep_row (A21.at_ (a19, .lst (List.replicate S.log.length (.int S.vat))) (by simp)) (sms_all.mpr fun d hd => by rw [List.eq_of_mem_replicate hd]; exact hv)) .nil)))))))))))))))))))
end K25
end
section
set_option autoImplicit false
set_option linter.all false
set_option maxRecDepth 100000
set_option maxHeartbeats 4000000
namespace K25
open L3
open PySem (Addr Str PyData NestedKey)
theorem ok__law_told : Keeps P0 sp__law_told 2 b__law_told := by
  rintro ds M Q X ⟨t, lt, S, n, m, rfl, T0, K, q⟩
  show wpSs P0 b__law_told _ _ [some (.ref t), none] M
  unfold b__law_told
  simp only [wpSs, wpS, wpE, wpEs, wpT, L3.w_add, L3.w_addS, L3.w_addT, L3.w_sub, L3.w_mul, L3.w_fdiv, L3.w_mod, L3.w_pow, L3.w_shl, L3.w_iadd, L3.w_isub, L3.w_neg, L3.w_lt, L3.w_le, L3.w_gt, L3.w_ge, L3.w_eq, L3.w_ne, L3.w_in, L3.w_nin, L3.w_tb, L3.w_ti, L3.w_tt, L3.w_ix0, L3.w_ix1, L3.w_ix2, L3.w_lenT, L3.w_lenK, L3.w_int, L3.w_intB, L3.w_max, L3.w_min, L3.w_rng1, L3.w_rng2, L3.w_one, L3.w_ixK, L3.w_itS, L3.w_lenS, L3.w_many, L3.w_eqS, L3.w_neS, L3.w_isN, L3.w_isNN, L3.w_itTup, List.getElem?_cons_zero, List.getElem?_cons_succ, List.set_cons_zero, List.set_cons_succ, Option.some.injEq, exists_eq_left', decide_eq_true_eq, Bool.false_eq_true, if_false, if_true, Bool.not_true, Bool.not_false, mokG, mokP, mokA, mokE, mokL, mokS, true_and, D.isNon, D.cn, wipeL, T0.g_made hF, T0.g_sent hF, T0.g_asked hF, T0.g_held hF]
  have A0 : Al No M [] M := Al.nil fun _ w => w.elim
  refine (w_liT T0.b_held).mpr (told_new A0 T0 fun a1 N1 A1 T1 => ?_)
  refine ⟨one4 _ _ _ _, told_new A1 T1 fun a2 N2 A2 T2 => ?_⟩
  simp only [wpSs, wpS, wpE, wpEs, wpT, L3.w_add, L3.w_addS, L3.w_addT, L3.w_sub, L3.w_mul, L3.w_fdiv, L3.w_mod, L3.w_pow, L3.w_shl, L3.w_iadd, L3.w_isub, L3.w_neg, L3.w_lt, L3.w_le, L3.w_gt, L3.w_ge, L3.w_eq, L3.w_ne, L3.w_in, L3.w_nin, L3.w_tb, L3.w_ti, L3.w_tt, L3.w_ix0, L3.w_ix1, L3.w_ix2, L3.w_lenT, L3.w_lenK, L3.w_int, L3.w_intB, L3.w_max, L3.w_min, L3.w_rng1, L3.w_rng2, L3.w_one, L3.w_ixK, L3.w_itS, L3.w_lenS, L3.w_many, L3.w_eqS, L3.w_neS, L3.w_isN, L3.w_isNN, L3.w_itTup, List.getElem?_cons_zero, List.getElem?_cons_succ, List.set_cons_zero, List.set_cons_succ, Option.some.injEq, exists_eq_left', decide_eq_true_eq, Bool.false_eq_true, if_false, if_true, Bool.not_true, Bool.not_false, mokG, mokP, mokA, mokE, mokL, mokS, true_and, D.isNon, D.cn, wipeL, T2.g_objects hF]
  refine (w_siD T2.b_objects).mpr ⟨K.objects.pairs KI.ok, told_new A2 T2 fun a3 N3 A3 T3 => ?_⟩
  simp only [wpSs, wpS, wpE, wpEs, wpT, L3.w_add, L3.w_addS, L3.w_addT, L3.w_sub, L3.w_mul, L3.w_fdiv, L3.w_mod, L3.w_pow, L3.w_shl, L3.w_iadd, L3.w_isub, L3.w_neg, L3.w_lt, L3.w_le, L3.w_gt, L3.w_ge, L3.w_eq, L3.w_ne, L3.w_in, L3.w_nin, L3.w_tb, L3.w_ti, L3.w_tt, L3.w_ix0, L3.w_ix1, L3.w_ix2, L3.w_lenT, L3.w_lenK, L3.w_int, L3.w_intB, L3.w_max, L3.w_min, L3.w_rng1, L3.w_rng2, L3.w_one, L3.w_ixK, L3.w_itS, L3.w_lenS, L3.w_many, L3.w_eqS, L3.w_neS, L3.w_isN, L3.w_isNN, L3.w_itTup, List.getElem?_cons_zero, List.getElem?_cons_succ, List.set_cons_zero, List.set_cons_succ, Option.some.injEq, exists_eq_left', decide_eq_true_eq, Bool.false_eq_true, if_false, if_true, Bool.not_true, Bool.not_false, mokG, mokP, mokA, mokE, mokL, mokS, true_and, D.isNon, D.cn, wipeL, T3.g_promises hF]
  refine (w_siD T3.b_promises).mpr ⟨K.promises.pairs KI.ok, told_new A3 T3 fun a4 N4 A4 T4 => ?_⟩
  refine ⟨by show 3 ≤ 2 ^ 24; decide, told_new A4 T4 fun a5 N5 A5 T5 => ?_⟩
  simp only [wpSs, wpS, wpE, wpEs, wpT, L3.w_add, L3.w_addS, L3.w_addT, L3.w_sub, L3.w_mul, L3.w_fdiv, L3.w_mod, L3.w_pow, L3.w_shl, L3.w_iadd, L3.w_isub, L3.w_neg, L3.w_lt, L3.w_le, L3.w_gt, L3.w_ge, L3.w_eq, L3.w_ne, L3.w_in, L3.w_nin, L3.w_tb, L3.w_ti, L3.w_tt, L3.w_ix0, L3.w_ix1, L3.w_ix2, L3.w_lenT, L3.w_lenK, L3.w_int, L3.w_intB, L3.w_max, L3.w_min, L3.w_rng1, L3.w_rng2, L3.w_one, L3.w_ixK, L3.w_itS, L3.w_lenS, L3.w_many, L3.w_eqS, L3.w_neS, L3.w_isN, L3.w_isNN, L3.w_itTup, List.getElem?_cons_zero, List.getElem?_cons_succ, List.set_cons_zero, List.set_cons_succ, Option.some.injEq, exists_eq_left', decide_eq_true_eq, Bool.false_eq_true, if_false, if_true, Bool.not_true, Bool.not_false, mokG, mokP, mokA, mokE, mokL, mokS, true_and, D.isNon, D.cn, wipeL, T5.g_answers hF]
  refine (w_siT T5.b_answers).mpr ⟨K.answers.pairs KP.ok, told_new A5 T5 fun a6 N6 A6 T6 => ?_⟩
  simp only [wpSs, wpS, wpE, wpEs, wpT, L3.w_add, L3.w_addS, L3.w_addT, L3.w_sub, L3.w_mul, L3.w_fdiv, L3.w_mod, L3.w_pow, L3.w_shl, L3.w_iadd, L3.w_isub, L3.w_neg, L3.w_lt, L3.w_le, L3.w_gt, L3.w_ge, L3.w_eq, L3.w_ne, L3.w_in, L3.w_nin, L3.w_tb, L3.w_ti, L3.w_tt, L3.w_ix0, L3.w_ix1, L3.w_ix2, L3.w_lenT, L3.w_lenK, L3.w_int, L3.w_intB, L3.w_max, L3.w_min, L3.w_rng1, L3.w_rng2, L3.w_one, L3.w_ixK, L3.w_itS, L3.w_lenS, L3.w_many, L3.w_eqS, L3.w_neS, L3.w_isN, L3.w_isNN, L3.w_itTup, List.getElem?_cons_zero, List.getElem?_cons_succ, List.set_cons_zero, List.set_cons_succ, Option.some.injEq, exists_eq_left', decide_eq_true_eq, Bool.false_eq_true, if_false, if_true, Bool.not_true, Bool.not_false, mokG, mokP, mokA, mokE, mokL, mokS, true_and, D.isNon, D.cn, wipeL, T6.g_lent hF]
  refine (w_siT T6.b_lent).mpr ⟨K.lent.pairs KR.ok, told_new A6 T6 fun a7 N7 A7 T7 => ?_⟩
  simp only [wpSs, wpS, wpE, wpEs, wpT, L3.w_add, L3.w_addS, L3.w_addT, L3.w_sub, L3.w_mul, L3.w_fdiv, L3.w_mod, L3.w_pow, L3.w_shl, L3.w_iadd, L3.w_isub, L3.w_neg, L3.w_lt, L3.w_le, L3.w_gt, L3.w_ge, L3.w_eq, L3.w_ne, L3.w_in, L3.w_nin, L3.w_tb, L3.w_ti, L3.w_tt, L3.w_ix0, L3.w_ix1, L3.w_ix2, L3.w_lenT, L3.w_lenK, L3.w_int, L3.w_intB, L3.w_max, L3.w_min, L3.w_rng1, L3.w_rng2, L3.w_one, L3.w_ixK, L3.w_itS, L3.w_lenS, L3.w_many, L3.w_eqS, L3.w_neS, L3.w_isN, L3.w_isNN, L3.w_itTup, List.getElem?_cons_zero, List.getElem?_cons_succ, List.set_cons_zero, List.set_cons_succ, Option.some.injEq, exists_eq_left', decide_eq_true_eq, Bool.false_eq_true, if_false, if_true, Bool.not_true, Bool.not_false, mokG, mokP, mokA, mokE, mokL, mokS, true_and, D.isNon, D.cn, wipeL, T7.g_known hF]
  refine (w_siT T7.b_known).mpr ⟨K.known.pairs KR.ok, told_new A7 T7 fun a8 N8 A8 T8 => ?_⟩
  simp only [wpSs, wpS, wpE, wpEs, wpT, L3.w_add, L3.w_addS, L3.w_addT, L3.w_sub, L3.w_mul, L3.w_fdiv, L3.w_mod, L3.w_pow, L3.w_shl, L3.w_iadd, L3.w_isub, L3.w_neg, L3.w_lt, L3.w_le, L3.w_gt, L3.w_ge, L3.w_eq, L3.w_ne, L3.w_in, L3.w_nin, L3.w_tb, L3.w_ti, L3.w_tt, L3.w_ix0, L3.w_ix1, L3.w_ix2, L3.w_lenT, L3.w_lenK, L3.w_int, L3.w_intB, L3.w_max, L3.w_min, L3.w_rng1, L3.w_rng2, L3.w_one, L3.w_ixK, L3.w_itS, L3.w_lenS, L3.w_many, L3.w_eqS, L3.w_neS, L3.w_isN, L3.w_isNN, L3.w_itTup, List.getElem?_cons_zero, List.getElem?_cons_succ, List.set_cons_zero, List.set_cons_succ, Option.some.injEq, exists_eq_left', decide_eq_true_eq, Bool.false_eq_true, if_false, if_true, Bool.not_true, Bool.not_false, mokG, mokP, mokA, mokE, mokL, mokS, true_and, D.isNon, D.cn, wipeL, T8.g_hoped hF]
  refine (w_siT T8.b_hoped).mpr ⟨K.hoped.pairs KR.ok, told_new A8 T8 fun a9 N9 A9 T9 => ?_⟩
  refine ⟨by show 4 ≤ 2 ^ 24; decide, told_new A9 T9 fun a10 N10 A10 T10 => ?_⟩
  refine (w_addL (A10.at_ (a5, .lst [.ref a2, .ref a3, .ref a4]) (by simp)) (A10.at_ (a10, .lst [.ref a6, .ref a7, .ref a8, .ref a9]) (by simp))).mpr ⟨by show 7 ≤ 2 ^ 24; decide, told_new A10 T10 fun a11 N11 A11 T11 => ?_⟩
  simp only [wpSs, wpS, wpE, wpEs, wpT, L3.w_add, L3.w_addS, L3.w_addT, L3.w_sub, L3.w_mul, L3.w_fdiv, L3.w_mod, L3.w_pow, L3.w_shl, L3.w_iadd, L3.w_isub, L3.w_neg, L3.w_lt, L3.w_le, L3.w_gt, L3.w_ge, L3.w_eq, L3.w_ne, L3.w_in, L3.w_nin, L3.w_tb, L3.w_ti, L3.w_tt, L3.w_ix0, L3.w_ix1, L3.w_ix2, L3.w_lenT, L3.w_lenK, L3.w_int, L3.w_intB, L3.w_max, L3.w_min, L3.w_rng1, L3.w_rng2, L3.w_one, L3.w_ixK, L3.w_itS, L3.w_lenS, L3.w_many, L3.w_eqS, L3.w_neS, L3.w_isN, L3.w_isNN, L3.w_itTup, List.getElem?_cons_zero, List.getElem?_cons_succ, List.set_cons_zero, List.set_cons_succ, Option.some.injEq, exists_eq_left', decide_eq_true_eq, Bool.false_eq_true, if_false, if_true, Bool.not_true, Bool.not_false, mokG, mokP, mokA, mokE, mokL, mokS, true_and, D.isNon, D.cn, wipeL, T11.g_places hF]
  refine (w_siT T11.b_places).mpr ⟨K.places.pairs KR.ok, told_new A11 T11 fun a12 N12 A12 T12 => ?_⟩
  simp only [wpSs, wpS, wpE, wpEs, wpT, L3.w_add, L3.w_addS, L3.w_addT, L3.w_sub, L3.w_mul, L3.w_fdiv, L3.w_mod, L3.w_pow, L3.w_shl, L3.w_iadd, L3.w_isub, L3.w_neg, L3.w_lt, L3.w_le, L3.w_gt, L3.w_ge, L3.w_eq, L3.w_ne, L3.w_in, L3.w_nin, L3.w_tb, L3.w_ti, L3.w_tt, L3.w_ix0, L3.w_ix1, L3.w_ix2, L3.w_lenT, L3.w_lenK, L3.w_int, L3.w_intB, L3.w_max, L3.w_min, L3.w_rng1, L3.w_rng2, L3.w_one, L3.w_ixK, L3.w_itS, L3.w_lenS, L3.w_many, L3.w_eqS, L3.w_neS, L3.w_isN, L3.w_isNN, L3.w_itTup, List.getElem?_cons_zero, List.getElem?_cons_succ, List.set_cons_zero, List.set_cons_succ, Option.some.injEq, exists_eq_left', decide_eq_true_eq, Bool.false_eq_true, if_false, if_true, Bool.not_true, Bool.not_false, mokG, mokP, mokA, mokE, mokL, mokS, true_and, D.isNon, D.cn, wipeL, T12.g_arrived hF]
  refine (w_siT T12.b_arrived).mpr ⟨K.arrived.pairs KP.ok, told_new A12 T12 fun a13 N13 A13 T13 => ?_⟩
  simp only [wpSs, wpS, wpE, wpEs, wpT, L3.w_add, L3.w_addS, L3.w_addT, L3.w_sub, L3.w_mul, L3.w_fdiv, L3.w_mod, L3.w_pow, L3.w_shl, L3.w_iadd, L3.w_isub, L3.w_neg, L3.w_lt, L3.w_le, L3.w_gt, L3.w_ge, L3.w_eq, L3.w_ne, L3.w_in, L3.w_nin, L3.w_tb, L3.w_ti, L3.w_tt, L3.w_ix0, L3.w_ix1, L3.w_ix2, L3.w_lenT, L3.w_lenK, L3.w_int, L3.w_intB, L3.w_max, L3.w_min, L3.w_rng1, L3.w_rng2, L3.w_one, L3.w_ixK, L3.w_itS, L3.w_lenS, L3.w_many, L3.w_eqS, L3.w_neS, L3.w_isN, L3.w_isNN, L3.w_itTup, List.getElem?_cons_zero, List.getElem?_cons_succ, List.set_cons_zero, List.set_cons_succ, Option.some.injEq, exists_eq_left', decide_eq_true_eq, Bool.false_eq_true, if_false, if_true, Bool.not_true, Bool.not_false, mokG, mokP, mokA, mokE, mokL, mokS, true_and, D.isNon, D.cn, wipeL, T13.g_pins hF]
  refine (w_siT T13.b_pins).mpr ⟨K.pins.pairs KR.ok, told_new A13 T13 fun a14 N14 A14 T14 => ?_⟩
  refine ⟨by show 3 ≤ 2 ^ 24; decide, told_new A14 T14 fun a15 N15 A15 T15 => ?_⟩
  refine (w_addL (A15.at_ (a11, .lst ([.ref a2, .ref a3, .ref a4] ++ [.ref a6, .ref a7, .ref a8, .ref a9])) (by simp)) (A15.at_ (a15, .lst [.ref a12, .ref a13, .ref a14]) (by simp))).mpr ⟨by show 10 ≤ 2 ^ 24; decide, told_new A15 T15 fun a16 N16 A16 T16 => ?_⟩
  simp only [wpSs, wpS, wpE, wpEs, wpT, L3.w_add, L3.w_addS, L3.w_addT, L3.w_sub, L3.w_mul, L3.w_fdiv, L3.w_mod, L3.w_pow, L3.w_shl, L3.w_iadd, L3.w_isub, L3.w_neg, L3.w_lt, L3.w_le, L3.w_gt, L3.w_ge, L3.w_eq, L3.w_ne, L3.w_in, L3.w_nin, L3.w_tb, L3.w_ti, L3.w_tt, L3.w_ix0, L3.w_ix1, L3.w_ix2, L3.w_lenT, L3.w_lenK, L3.w_int, L3.w_intB, L3.w_max, L3.w_min, L3.w_rng1, L3.w_rng2, L3.w_one, L3.w_ixK, L3.w_itS, L3.w_lenS, L3.w_many, L3.w_eqS, L3.w_neS, L3.w_isN, L3.w_isNN, L3.w_itTup, List.getElem?_cons_zero, List.getElem?_cons_succ, List.set_cons_zero, List.set_cons_succ, Option.some.injEq, exists_eq_left', decide_eq_true_eq, Bool.false_eq_true, if_false, if_true, Bool.not_true, Bool.not_false, mokG, mokP, mokA, mokE, mokL, mokS, true_and, D.isNon, D.cn, wipeL, T16.g_queue hF, T16.g_parked hF, T16.g_early hF, T16.g_waiting hF, T16.g_listeners hF, T16.g_transfers hF, T16.g_out hF, T16.g_log hF, T16.g_order hF]
  refine ⟨by show 9 ≤ 2 ^ 24; decide, told_new A16 T16 fun a17 N17 A17 T17 => ?_⟩
  refine (w_addL (A17.at_ (a16, .lst (([.ref a2, .ref a3, .ref a4] ++ [.ref a6, .ref a7, .ref a8, .ref a9]) ++ [.ref a12, .ref a13, .ref a14])) (by simp)) (A17.at_ (a17, .lst [.ref (lt .queue), .ref (lt .parked), .ref (lt .early), .ref (lt .waiting), .ref (lt .listeners), .ref (lt .transfers), .ref (lt .out), .ref (lt .log), .ref (lt .order)]) (by simp))).mpr ⟨by show 19 ≤ 2 ^ 24; decide, told_new A17 T17 fun a18 N18 A18 T18 => ?_⟩
  refine q _ _ (.lst (A18.at_ (a18, .lst ((([.ref a2, .ref a3, .ref a4] ++ [.ref a6, .ref a7, .ref a8, .ref a9]) ++ [.ref a12, .ref a13, .ref a14]) ++ [.ref (lt .queue), .ref (lt .parked), .ref (lt .early), .ref (lt .waiting), .ref (lt .listeners), .ref (lt .transfers), .ref (lt .out), .ref (lt .log), .ref (lt .order)])) (by simp)) ?_) A18.fr
  exact (.cons (.lst (A18.at_ (a2, .lst [.int S.made, .int S.sent, .int S.asked, .ref a1]) (by simp)) (.cons (.int _) (.cons (.int _) (.cons (.int _) (.cons (deep_row (A18.at_ (a1, .lst (S.held.map pairD)) (by simp)) (K.held.list KR.ok).1) .nil))))) (.cons (deep_row (A18.at_ (a3, .lst ((srtP S.objects).map pairD)) (by simp)) (K.objects.slist KI.ok).1) (.cons (deep_row (A18.at_ (a4, .lst ((srtP S.promises).map pairD)) (by simp)) (K.promises.slist KI.ok).1) (.cons (deep_row (A18.at_ (a6, .lst ((srtP S.answers).map pairD)) (by simp)) (K.answers.slist KP.ok).1) (.cons (deep_row (A18.at_ (a7, .lst ((srtP S.lent).map pairD)) (by simp)) (K.lent.slist KR.ok).1) (.cons (deep_row (A18.at_ (a8, .lst ((srtP S.known).map pairD)) (by simp)) (K.known.slist KR.ok).1) (.cons (deep_row (A18.at_ (a9, .lst ((srtP S.hoped).map pairD)) (by simp)) (K.hoped.slist KR.ok).1) (.cons (deep_row (A18.at_ (a12, .lst ((srtP S.places).map pairD)) (by simp)) (K.places.slist KR.ok).1) (.cons (deep_row (A18.at_ (a13, .lst ((srtP S.arrived).map pairD)) (by simp)) (K.arrived.slist KP.ok).1) (.cons (deep_row (A18.at_ (a14, .lst ((srtP S.pins).map pairD)) (by simp)) (K.pins.slist KR.ok).1) (.cons (deep_row T18.b_queue (row_at K (l := S.queue) (by simp [Tb.ls1]))) (.cons (deep_row T18.b_parked (row_at K (l := S.parked) (by simp [Tb.ls1]))) (.cons (deep_row T18.b_early (row_at K (l := S.early) (by simp [Tb.ls1]))) (.cons (deep_row T18.b_waiting (row_at K (l := S.waiting) (by simp [Tb.ls1]))) (.cons (deep_row T18.b_listeners (row_at K (l := S.listeners) (by simp [Tb.ls1]))) (.cons (deep_row T18.b_transfers (row_at K (l := S.transfers) (by simp [Tb.ls1]))) (.cons (deep_row T18.b_out (row_at K (l := S.out) (by simp [Tb.ls1]))) (.cons (deep_row T18.b_log (row_at K (l := S.log) (by simp [Tb.ls1]))) (.cons (deep_row T18.b_order (row_at K (l := S.order) (by simp [Tb.ls1]))) .nil)))))))))))))))))))
end K25
end
section
set_option autoImplicit false
set_option linter.all false
set_option maxRecDepth 100000
set_option maxHeartbeats 4000000
namespace K25
open L3
open PySem (Addr Str PyData NestedKey)
theorem ok_record_at : Keeps P0 sp_record_at 2 b_record_at := by
  rintro ds M Q X ⟨t, lt, S, R, V, K, key, rfl, T, hk, q⟩
  show wpSs P0 b_record_at _ _ [some (.ref t), some key] M
  unfold b_record_at
  rcases hk with ⟨k, rfl, hk⟩ | ⟨v, qn, a, rfl, hv, hq, ha, hA⟩
  · unfold pKey at *
    simp only [wpSs, wpS, wpE, wpEs, wpT, L3.w_add, L3.w_addS, L3.w_addT, L3.w_sub, L3.w_mul, L3.w_fdiv, L3.w_mod, L3.w_pow, L3.w_shl, L3.w_iadd, L3.w_isub, L3.w_neg, L3.w_lt, L3.w_le, L3.w_gt, L3.w_ge, L3.w_eq, L3.w_ne, L3.w_in, L3.w_nin, L3.w_tb, L3.w_ti, L3.w_tt, L3.w_ix0, L3.w_ix1, L3.w_ix2, L3.w_lenT, L3.w_lenK, L3.w_int, L3.w_intB, L3.w_max, L3.w_min, L3.w_rng1, L3.w_rng2, L3.w_one, L3.w_ixK, L3.w_itS, L3.w_lenS, L3.w_many, L3.w_eqS, L3.w_neS, L3.w_isN, L3.w_isNN, L3.w_itTup, List.getElem?_cons_zero, List.getElem?_cons_succ, List.set_cons_zero, List.set_cons_succ, Option.some.injEq, exists_eq_left', decide_eq_true_eq, Bool.false_eq_true, if_false, if_true, Bool.not_true, Bool.not_false, mokG, mokP, mokA, mokE, mokL, mokS, true_and, D.isNon, D.cn, wipeL, T.g_promises hF, w_rcvD T.b_promises]
    exact ⟨sl_small 1, (w_getD T.b_promises).mpr ⟨rfl, q⟩⟩
  · obtain ⟨i, j, r, w, rfl, hi, hj, hr, hw⟩ := hA
    unfold recAt aKey at q
    simp only [ha] at q
    unfold aKey
    simp only [wpSs, wpS, wpE, wpEs, wpT, L3.w_add, L3.w_addS, L3.w_addT, L3.w_sub, L3.w_mul, L3.w_fdiv, L3.w_mod, L3.w_pow, L3.w_shl, L3.w_iadd, L3.w_isub, L3.w_neg, L3.w_lt, L3.w_le, L3.w_gt, L3.w_ge, L3.w_eq, L3.w_ne, L3.w_in, L3.w_nin, L3.w_tb, L3.w_ti, L3.w_tt, L3.w_ix0, L3.w_ix1, L3.w_ix2, L3.w_lenT, L3.w_lenK, L3.w_int, L3.w_intB, L3.w_max, L3.w_min, L3.w_rng1, L3.w_rng2, L3.w_one, L3.w_ixK, L3.w_itS, L3.w_lenS, L3.w_many, L3.w_eqS, L3.w_neS, L3.w_isN, L3.w_isNN, L3.w_itTup, List.getElem?_cons_zero, List.getElem?_cons_succ, List.set_cons_zero, List.set_cons_succ, Option.some.injEq, exists_eq_left', decide_eq_true_eq, Bool.false_eq_true, if_false, if_true, Bool.not_true, Bool.not_false, mokG, mokP, mokA, mokE, mokL, mokS, true_and, D.isNon, D.cn, wipeL, T.g_answers hF]
    rw [if_neg (by decide)]
    refine (w_slT).mpr ⟨⟨rfl, rfl⟩, ?_⟩
    rw [cut1_a]
    refine (w_ixT T.b_answers).mpr ⟨aK_hkT hv hq, _, ha, ?_⟩
    simp only [wpSs, wpS, wpE, wpEs, wpT, L3.w_add, L3.w_addS, L3.w_addT, L3.w_sub, L3.w_mul, L3.w_fdiv, L3.w_mod, L3.w_pow, L3.w_shl, L3.w_iadd, L3.w_isub, L3.w_neg, L3.w_lt, L3.w_le, L3.w_gt, L3.w_ge, L3.w_eq, L3.w_ne, L3.w_in, L3.w_nin, L3.w_tb, L3.w_ti, L3.w_tt, L3.w_ix0, L3.w_ix1, L3.w_ix2, L3.w_lenT, L3.w_lenK, L3.w_int, L3.w_intB, L3.w_max, L3.w_min, L3.w_rng1, L3.w_rng2, L3.w_one, L3.w_ixK, L3.w_itS, L3.w_lenS, L3.w_many, L3.w_eqS, L3.w_neS, L3.w_isN, L3.w_isNN, L3.w_itTup, List.getElem?_cons_zero, List.getElem?_cons_succ, List.set_cons_zero, List.set_cons_succ, Option.some.injEq, exists_eq_left', decide_eq_true_eq, Bool.false_eq_true, if_false, if_true, Bool.not_true, Bool.not_false, mokG, mokP, mokA, mokE, mokL, mokS, true_and, D.isNon, D.cn, wipeL]
    exact q
end K25
end
section
set_option autoImplicit false
set_option linter.all false
set_option maxRecDepth 100000
set_option maxHeartbeats 4000000
namespace K25
open L3
open PySem (Addr Str PyData NestedKey)
theorem ok_put_out : Keeps P0 sp_put_out 3 b_put_out := by
  rintro ds M Q X ⟨t, lt, S, r, c, rfl, T, hl, q⟩
  show wpSs P0 b_put_out _ _ [some (.ref t), some r, some c] M
  unfold b_put_out
  simp only [wpSs, wpS, wpE, wpEs, wpT, L3.w_add, L3.w_addS, L3.w_addT, L3.w_sub, L3.w_mul, L3.w_fdiv, L3.w_mod, L3.w_pow, L3.w_shl, L3.w_iadd, L3.w_isub, L3.w_neg, L3.w_lt, L3.w_le, L3.w_gt, L3.w_ge, L3.w_eq, L3.w_ne, L3.w_in, L3.w_nin, L3.w_tb, L3.w_ti, L3.w_tt, L3.w_ix0, L3.w_ix1, L3.w_ix2, L3.w_lenT, L3.w_lenK, L3.w_int, L3.w_intB, L3.w_max, L3.w_min, L3.w_rng1, L3.w_rng2, L3.w_one, L3.w_ixK, L3.w_itS, L3.w_lenS, L3.w_many, L3.w_eqS, L3.w_neS, L3.w_isN, L3.w_isNN, L3.w_itTup, List.getElem?_cons_zero, List.getElem?_cons_succ, List.set_cons_zero, List.set_cons_succ, Option.some.injEq, exists_eq_left', decide_eq_true_eq, Bool.false_eq_true, if_false, if_true, Bool.not_true, Bool.not_false, mokG, mokP, mokA, mokE, mokL, mokS, true_and, D.isNon, D.cn, wipeL, T.g_out hF, w_rcvL T.b_out]
  exact ⟨one2 _ _, (w_app T.b_out).mpr ⟨len100 hl, q _ T.p_out T.out⟩⟩
end K25
end
section
set_option autoImplicit false
set_option linter.all false
set_option maxRecDepth 100000
set_option maxHeartbeats 4000000
namespace K25
open L3
open PySem (Addr Str PyData NestedKey)
theorem ok_return_answer : Keeps P0 sp_return_answer 2 b_return_answer := by
  rintro ds M Q X ⟨t, lt, S, R, V, K, r, rfl, T, hl, hr, q⟩
  show wpSs P0 b_return_answer _ _ [some (.ref t), some r] M
  unfold b_return_answer
  have same : ∀ S' : Tb, S' = S → relE r = [] → Q .non M := fun S' _ e => q M (by rw [e, List.append_nil]; exact T) Fr.refl
  have no : ∀ (x : Str) (ds : List D), r = .tup (.str x :: ds) → x ≠ "forwarded" → relE r = [] := fun x ds e h => by
    rw [e]; unfold relE; split
    · rename_i e2; cases e2; rw [if_neg h]
    · rfl
  rcases hr with rfl | (⟨v, rfl, h⟩ | ⟨v, rfl, h⟩) | ⟨a, b, w, rfl, _⟩
  · simp only [wpSs, wpS, wpE, wpEs, wpT, L3.w_add, L3.w_addS, L3.w_addT, L3.w_sub, L3.w_mul, L3.w_fdiv, L3.w_mod, L3.w_pow, L3.w_shl, L3.w_iadd, L3.w_isub, L3.w_neg, L3.w_lt, L3.w_le, L3.w_gt, L3.w_ge, L3.w_eq, L3.w_ne, L3.w_in, L3.w_nin, L3.w_tb, L3.w_ti, L3.w_tt, L3.w_ix0, L3.w_ix1, L3.w_ix2, L3.w_lenT, L3.w_lenK, L3.w_int, L3.w_intB, L3.w_max, L3.w_min, L3.w_rng1, L3.w_rng2, L3.w_one, L3.w_ixK, L3.w_itS, L3.w_lenS, L3.w_many, L3.w_eqS, L3.w_neS, L3.w_isN, L3.w_isNN, L3.w_itTup, List.getElem?_cons_zero, List.getElem?_cons_succ, List.set_cons_zero, List.set_cons_succ, Option.some.injEq, exists_eq_left', decide_eq_true_eq, Bool.false_eq_true, if_false, if_true, Bool.not_true, Bool.not_false, mokG, mokP, mokA, mokE, mokL, mokS, true_and, D.isNon, D.cn, wipeL]
    rw [if_neg (by decide)]
    exact same S rfl (no _ _ rfl (by decide))
  · simp only [wpSs, wpS, wpE, wpEs, wpT, L3.w_add, L3.w_addS, L3.w_addT, L3.w_sub, L3.w_mul, L3.w_fdiv, L3.w_mod, L3.w_pow, L3.w_shl, L3.w_iadd, L3.w_isub, L3.w_neg, L3.w_lt, L3.w_le, L3.w_gt, L3.w_ge, L3.w_eq, L3.w_ne, L3.w_in, L3.w_nin, L3.w_tb, L3.w_ti, L3.w_tt, L3.w_ix0, L3.w_ix1, L3.w_ix2, L3.w_lenT, L3.w_lenK, L3.w_int, L3.w_intB, L3.w_max, L3.w_min, L3.w_rng1, L3.w_rng2, L3.w_one, L3.w_ixK, L3.w_itS, L3.w_lenS, L3.w_many, L3.w_eqS, L3.w_neS, L3.w_isN, L3.w_isNN, L3.w_itTup, List.getElem?_cons_zero, List.getElem?_cons_succ, List.set_cons_zero, List.set_cons_succ, Option.some.injEq, exists_eq_left', decide_eq_true_eq, Bool.false_eq_true, if_false, if_true, Bool.not_true, Bool.not_false, mokG, mokP, mokA, mokE, mokL, mokS, true_and, D.isNon, D.cn, wipeL]
    rw [if_neg (by decide)]
    exact same S rfl (no _ _ rfl (by decide))
  · simp only [wpSs, wpS, wpE, wpEs, wpT, L3.w_add, L3.w_addS, L3.w_addT, L3.w_sub, L3.w_mul, L3.w_fdiv, L3.w_mod, L3.w_pow, L3.w_shl, L3.w_iadd, L3.w_isub, L3.w_neg, L3.w_lt, L3.w_le, L3.w_gt, L3.w_ge, L3.w_eq, L3.w_ne, L3.w_in, L3.w_nin, L3.w_tb, L3.w_ti, L3.w_tt, L3.w_ix0, L3.w_ix1, L3.w_ix2, L3.w_lenT, L3.w_lenK, L3.w_int, L3.w_intB, L3.w_max, L3.w_min, L3.w_rng1, L3.w_rng2, L3.w_one, L3.w_ixK, L3.w_itS, L3.w_lenS, L3.w_many, L3.w_eqS, L3.w_neS, L3.w_isN, L3.w_isNN, L3.w_itTup, List.getElem?_cons_zero, List.getElem?_cons_succ, List.set_cons_zero, List.set_cons_succ, Option.some.injEq, exists_eq_left', decide_eq_true_eq, Bool.false_eq_true, if_false, if_true, Bool.not_true, Bool.not_false, mokG, mokP, mokA, mokE, mokL, mokS, true_and, D.isNon, D.cn, wipeL]
    rw [if_neg (by decide)]
    exact same S rfl (no _ _ rfl (by decide))
  · simp only [wpSs, wpS, wpE, wpEs, wpT, L3.w_add, L3.w_addS, L3.w_addT, L3.w_sub, L3.w_mul, L3.w_fdiv, L3.w_mod, L3.w_pow, L3.w_shl, L3.w_iadd, L3.w_isub, L3.w_neg, L3.w_lt, L3.w_le, L3.w_gt, L3.w_ge, L3.w_eq, L3.w_ne, L3.w_in, L3.w_nin, L3.w_tb, L3.w_ti, L3.w_tt, L3.w_ix0, L3.w_ix1, L3.w_ix2, L3.w_lenT, L3.w_lenK, L3.w_int, L3.w_intB, L3.w_max, L3.w_min, L3.w_rng1, L3.w_rng2, L3.w_one, L3.w_ixK, L3.w_itS, L3.w_lenS, L3.w_many, L3.w_eqS, L3.w_neS, L3.w_isN, L3.w_isNN, L3.w_itTup, List.getElem?_cons_zero, List.getElem?_cons_succ, List.set_cons_zero, List.set_cons_succ, Option.some.injEq, exists_eq_left', decide_eq_true_eq, Bool.false_eq_true, if_false, if_true, Bool.not_true, Bool.not_false, mokG, mokP, mokA, mokE, mokL, mokS, true_and, D.isNon, D.cn, wipeL]
    refine (w_ixTup).mpr ⟨_, rfl, one3 _ _ _, ?_⟩
    exact ⟨t, lt, S, _, _, rfl, T, hl, fun M' T' f => q M' T' f⟩
end K25
end
section
set_option autoImplicit false
set_option linter.all false
set_option maxRecDepth 100000
set_option maxHeartbeats 4000000
namespace K25
open L3
open PySem (Addr Str PyData NestedKey)
theorem ok_put_record : Keeps P0 sp_put_record 6 b_put_record := by
  rintro ds M Q X ⟨t, lt, S, R, V, K, key, r, rfl, T, hk, ⟨l1, l2⟩, q⟩
  show wpSs P0 b_put_record _ _ [some (.ref t), some key, some r, none, none, none] M
  unfold b_put_record
  rcases hk with ⟨k, rfl, hk⟩ | ⟨v, qn, a, rfl, hv, hq, ha, hA⟩
  · unfold pKey at *
    simp only [wpSs, wpS, wpE, wpEs, wpT, L3.w_add, L3.w_addS, L3.w_addT, L3.w_sub, L3.w_mul, L3.w_fdiv, L3.w_mod, L3.w_pow, L3.w_shl, L3.w_iadd, L3.w_isub, L3.w_neg, L3.w_lt, L3.w_le, L3.w_gt, L3.w_ge, L3.w_eq, L3.w_ne, L3.w_in, L3.w_nin, L3.w_tb, L3.w_ti, L3.w_tt, L3.w_ix0, L3.w_ix1, L3.w_ix2, L3.w_lenT, L3.w_lenK, L3.w_int, L3.w_intB, L3.w_max, L3.w_min, L3.w_rng1, L3.w_rng2, L3.w_one, L3.w_ixK, L3.w_itS, L3.w_lenS, L3.w_many, L3.w_eqS, L3.w_neS, L3.w_isN, L3.w_isNN, L3.w_itTup, List.getElem?_cons_zero, List.getElem?_cons_succ, List.set_cons_zero, List.set_cons_succ, Option.some.injEq, exists_eq_left', decide_eq_true_eq, Bool.false_eq_true, if_false, if_true, Bool.not_true, Bool.not_false, mokG, mokP, mokA, mokE, mokL, mokS, true_and, D.isNon, D.cn, wipeL, T.g_promises hF]
    exact (w_setD T.b_promises).mpr ⟨⟨rfl, len100 l1⟩, q _ T.p_promises (Fr.set (.inr ⟨.promises, rfl⟩))⟩
  · obtain ⟨i, j, r', w, rfl, hi, hj, hr, hw⟩ := hA
    unfold putRec aKey at q
    simp only [ha] at q
    unfold aKey
    simp only [wpSs, wpS, wpE, wpEs, wpT, L3.w_add, L3.w_addS, L3.w_addT, L3.w_sub, L3.w_mul, L3.w_fdiv, L3.w_mod, L3.w_pow, L3.w_shl, L3.w_iadd, L3.w_isub, L3.w_neg, L3.w_lt, L3.w_le, L3.w_gt, L3.w_ge, L3.w_eq, L3.w_ne, L3.w_in, L3.w_nin, L3.w_tb, L3.w_ti, L3.w_tt, L3.w_ix0, L3.w_ix1, L3.w_ix2, L3.w_lenT, L3.w_lenK, L3.w_int, L3.w_intB, L3.w_max, L3.w_min, L3.w_rng1, L3.w_rng2, L3.w_one, L3.w_ixK, L3.w_itS, L3.w_lenS, L3.w_many, L3.w_eqS, L3.w_neS, L3.w_isN, L3.w_isNN, L3.w_itTup, List.getElem?_cons_zero, List.getElem?_cons_succ, List.set_cons_zero, List.set_cons_succ, Option.some.injEq, exists_eq_left', decide_eq_true_eq, Bool.false_eq_true, if_false, if_true, Bool.not_true, Bool.not_false, mokG, mokP, mokA, mokE, mokL, mokS, true_and, D.isNon, D.cn, wipeL, T.g_answers hF]
    rw [if_neg (by decide)]
    refine (w_slT).mpr ⟨⟨rfl, rfl⟩, ?_⟩
    rw [cut1_a]
    refine (w_ixT T.b_answers).mpr ⟨aK_hkT hv hq, _, ha, ⟨_, rfl, ?_⟩⟩
    simp only [wpSs, wpS, wpE, wpEs, wpT, L3.w_add, L3.w_addS, L3.w_addT, L3.w_sub, L3.w_mul, L3.w_fdiv, L3.w_mod, L3.w_pow, L3.w_shl, L3.w_iadd, L3.w_isub, L3.w_neg, L3.w_lt, L3.w_le, L3.w_gt, L3.w_ge, L3.w_eq, L3.w_ne, L3.w_in, L3.w_nin, L3.w_tb, L3.w_ti, L3.w_tt, L3.w_ix0, L3.w_ix1, L3.w_ix2, L3.w_lenT, L3.w_lenK, L3.w_int, L3.w_intB, L3.w_max, L3.w_min, L3.w_rng1, L3.w_rng2, L3.w_one, L3.w_ixK, L3.w_itS, L3.w_lenS, L3.w_many, L3.w_eqS, L3.w_neS, L3.w_isN, L3.w_isNN, L3.w_itTup, List.getElem?_cons_zero, List.getElem?_cons_succ, List.set_cons_zero, List.set_cons_succ, Option.some.injEq, exists_eq_left', decide_eq_true_eq, Bool.false_eq_true, if_false, if_true, Bool.not_true, Bool.not_false, mokG, mokP, mokA, mokE, mokL, mokS, true_and, D.isNon, D.cn, wipeL, T.g_answers hF]
    refine ⟨one3 _ _ _, (w_slT).mpr ⟨⟨rfl, rfl⟩, ?_⟩⟩
    rw [cut1_a]
    exact (w_setT T.b_answers).mpr ⟨⟨aK_hkT hv hq, len100 l2⟩, q _ T.p_answers (Fr.set (.inr ⟨.answers, rfl⟩))⟩
end K25
end
section
set_option autoImplicit false
set_option linter.all false
set_option maxRecDepth 100000
set_option maxHeartbeats 4000000
namespace K25
open L3
open PySem (Addr Str PyData NestedKey)
theorem ok_set_record : Keeps P0 sp_set_record 4 b_set_record := by
  rintro ds M Q X ⟨t, lt, S, R, V, K, key, r, rfl, T, hk, hr0, hr, hl, hl2, q⟩
  show wpSs P0 b_set_record _ _ [some (.ref t), some key, some r, none] M
  unfold b_set_record
  simp only [wpSs, wpS, wpE, wpEs, wpT, L3.w_add, L3.w_addS, L3.w_addT, L3.w_sub, L3.w_mul, L3.w_fdiv, L3.w_mod, L3.w_pow, L3.w_shl, L3.w_iadd, L3.w_isub, L3.w_neg, L3.w_lt, L3.w_le, L3.w_gt, L3.w_ge, L3.w_eq, L3.w_ne, L3.w_in, L3.w_nin, L3.w_tb, L3.w_ti, L3.w_tt, L3.w_ix0, L3.w_ix1, L3.w_ix2, L3.w_lenT, L3.w_lenK, L3.w_int, L3.w_intB, L3.w_max, L3.w_min, L3.w_rng1, L3.w_rng2, L3.w_one, L3.w_ixK, L3.w_itS, L3.w_lenS, L3.w_many, L3.w_eqS, L3.w_neS, L3.w_isN, L3.w_isNN, L3.w_itTup, List.getElem?_cons_zero, List.getElem?_cons_succ, List.set_cons_zero, List.set_cons_succ, Option.some.injEq, exists_eq_left', decide_eq_true_eq, Bool.false_eq_true, if_false, if_true, Bool.not_true, Bool.not_false, mokG, mokP, mokA, mokE, mokL, mokS, true_and, D.isNon, D.cn, wipeL]
  refine ⟨t, lt, S, R, V, K, key, rfl, T, hk, ?_⟩
  refine ⟨t, lt, S, R, V, K, key, r, rfl, T, hk, hl2, fun M1 T1 f1 => ?_⟩
  unfold setRec at q
  obtain ⟨x, ds, rfl⟩ := rec_hd hr
  have h0 : hdS (.tup (.str x :: ds)) = x := rfl
  rw [h0] at q
  have ho : (putRec S key (.tup (.str x :: ds))).out = S.out := by
    rcases hk with ⟨k, rfl, _⟩ | ⟨v, qn, a, rfl, _, _, ha, i, j, r', w, rfl, _⟩
    · rfl
    · unfold putRec aKey; simp only [ha]
  simp only [wpSs, wpS, wpE, wpEs, wpT, L3.w_add, L3.w_addS, L3.w_addT, L3.w_sub, L3.w_mul, L3.w_fdiv, L3.w_mod, L3.w_pow, L3.w_shl, L3.w_iadd, L3.w_isub, L3.w_neg, L3.w_lt, L3.w_le, L3.w_gt, L3.w_ge, L3.w_eq, L3.w_ne, L3.w_in, L3.w_nin, L3.w_tb, L3.w_ti, L3.w_tt, L3.w_ix0, L3.w_ix1, L3.w_ix2, L3.w_lenT, L3.w_lenK, L3.w_int, L3.w_intB, L3.w_max, L3.w_min, L3.w_rng1, L3.w_rng2, L3.w_one, L3.w_ixK, L3.w_itS, L3.w_lenS, L3.w_many, L3.w_eqS, L3.w_neS, L3.w_isN, L3.w_isNN, L3.w_itTup, List.getElem?_cons_zero, List.getElem?_cons_succ, List.set_cons_zero, List.set_cons_succ, Option.some.injEq, exists_eq_left', decide_eq_true_eq, Bool.false_eq_true, if_false, if_true, Bool.not_true, Bool.not_false, mokG, mokP, mokA, mokE, mokL, mokS, true_and, D.isNon, D.cn, wipeL]
  refine (w_inTup).mpr ⟨⟨rfl, fun d hd => by simp only [List.mem_cons, List.not_mem_nil, or_false] at hd; rcases hd with rfl | rfl <;> rfl⟩, ?_⟩
  simp only [List.any_cons, List.any_nil, eqv_str, Bool.or_false, Bool.or_eq_true, decide_eq_true_eq]
  by_cases e : "fulfilled" = x ∨ "broken" = x
  · rw [if_pos e]
    rw [if_pos (e.imp Eq.symm Eq.symm)] at q
    refine ⟨t, lt, _, R, V, K, _, rfl, T1, by rw [ho]; exact hl, hr0, fun M' T' f => ?_⟩
    rw [ho] at T'
    exact q M' T' (f1.trans f)
  · rw [if_neg e]
    rw [if_neg (fun z => e (z.imp Eq.symm Eq.symm))] at q
    exact q M1 T1 f1
end K25
end
section
set_option autoImplicit false
set_option linter.all false
set_option maxRecDepth 100000
set_option maxHeartbeats 4000000
namespace K25
open L3
open PySem (Addr Str PyData NestedKey)
theorem ok__law_atom : Keeps P0 sp__law_atom 5 b__law_atom := by
  rintro ds M Q X ⟨b, d, s, ls, S, rfl, sb, g, q⟩
  have v0 := g.v0
  have v1 := g.v1
  have t0 := g.t0
  have t1 := g.t1
  show wpSs P0 b__law_atom _ _ [some (.ref b), some (.ref s), none, none, none] M
  unfold b__law_atom
  simp only [wpSs, wpS, wpE, wpEs, wpT, L3.w_add, L3.w_addS, L3.w_addT, L3.w_sub, L3.w_mul, L3.w_fdiv, L3.w_mod, L3.w_pow, L3.w_shl, L3.w_iadd, L3.w_isub, L3.w_neg, L3.w_lt, L3.w_le, L3.w_gt, L3.w_ge, L3.w_eq, L3.w_ne, L3.w_in, L3.w_nin, L3.w_tb, L3.w_ti, L3.w_tt, L3.w_ix0, L3.w_ix1, L3.w_ix2, L3.w_lenT, L3.w_lenK, L3.w_int, L3.w_intB, L3.w_max, L3.w_min, L3.w_rng1, L3.w_rng2, L3.w_one, L3.w_ixK, L3.w_itS, L3.w_lenS, L3.w_many, L3.w_eqS, L3.w_neS, L3.w_isN, L3.w_isNN, L3.w_itTup, List.getElem?_cons_zero, List.getElem?_cons_succ, List.set_cons_zero, List.set_cons_succ, Option.some.injEq, exists_eq_left', decide_eq_true_eq, Bool.false_eq_true, if_false, if_true, Bool.not_true, Bool.not_false, mokG, mokP, mokA, mokE, mokL, mokS, true_and, D.isNon, D.cn, wipeL]
  refine ⟨b, d, 9, rfl, by decide, sb.bx, fun e M1 e0 e1 bx1 f1 => ?_⟩
  have s1 := sb.at_ bx1 f1
  simp only [wpSs, wpS, wpE, wpEs, wpT, L3.w_add, L3.w_addS, L3.w_addT, L3.w_sub, L3.w_mul, L3.w_fdiv, L3.w_mod, L3.w_pow, L3.w_shl, L3.w_iadd, L3.w_isub, L3.w_neg, L3.w_lt, L3.w_le, L3.w_gt, L3.w_ge, L3.w_eq, L3.w_ne, L3.w_in, L3.w_nin, L3.w_tb, L3.w_ti, L3.w_tt, L3.w_ix0, L3.w_ix1, L3.w_ix2, L3.w_lenT, L3.w_lenK, L3.w_int, L3.w_intB, L3.w_max, L3.w_min, L3.w_rng1, L3.w_rng2, L3.w_one, L3.w_ixK, L3.w_itS, L3.w_lenS, L3.w_many, L3.w_eqS, L3.w_neS, L3.w_isN, L3.w_isNN, L3.w_itTup, List.getElem?_cons_zero, List.getElem?_cons_succ, List.set_cons_zero, List.set_cons_succ, Option.some.injEq, exists_eq_left', decide_eq_true_eq, Bool.false_eq_true, if_false, if_true, Bool.not_true, Bool.not_false, mokG, mokP, mokA, mokE, mokL, mokS, true_and, D.isNon, D.cn, wipeL]
  refine ⟨by show 4 ≤ 2 ^ 24; decide, fun p hp => ?_⟩
  have s2 := s1.new (o := .lst [.int 1, .int 2, .int 3, .int 4]) hp
  refine (w_itL mset_same).mpr ?_
  refine compL_pure (othF S.vat) mset_same ?_ (by show 0 + 4 ≤ 2 ^ 24; decide) ?_
  · intro x hx kk h
    simp only [List.mem_cons, List.not_mem_nil, or_false] at hx
    simp only [wpSs, wpS, wpE, wpEs, wpT, L3.w_add, L3.w_addS, L3.w_addT, L3.w_sub, L3.w_mul, L3.w_fdiv, L3.w_mod, L3.w_pow, L3.w_shl, L3.w_iadd, L3.w_isub, L3.w_neg, L3.w_lt, L3.w_le, L3.w_gt, L3.w_ge, L3.w_eq, L3.w_ne, L3.w_in, L3.w_nin, L3.w_tb, L3.w_ti, L3.w_tt, L3.w_ix0, L3.w_ix1, L3.w_ix2, L3.w_lenT, L3.w_lenK, L3.w_int, L3.w_intB, L3.w_max, L3.w_min, L3.w_rng1, L3.w_rng2, L3.w_one, L3.w_ixK, L3.w_itS, L3.w_lenS, L3.w_many, L3.w_eqS, L3.w_neS, L3.w_isN, L3.w_isNN, L3.w_itTup, List.getElem?_cons_zero, List.getElem?_cons_succ, List.set_cons_zero, List.set_cons_succ, Option.some.injEq, exists_eq_left', decide_eq_true_eq, Bool.false_eq_true, if_false, if_true, Bool.not_true, Bool.not_false, mokG, mokP, mokA, mokE, mokL, mokS, true_and, D.isNon, D.cn, wipeL, s2.ss.g_vat]
    rcases hx with rfl | rfl | rfl | rfl <;> simp only [wpSs, wpS, wpE, wpEs, wpT, L3.w_add, L3.w_addS, L3.w_addT, L3.w_sub, L3.w_mul, L3.w_fdiv, L3.w_mod, L3.w_pow, L3.w_shl, L3.w_iadd, L3.w_isub, L3.w_neg, L3.w_lt, L3.w_le, L3.w_gt, L3.w_ge, L3.w_eq, L3.w_ne, L3.w_in, L3.w_nin, L3.w_tb, L3.w_ti, L3.w_tt, L3.w_ix0, L3.w_ix1, L3.w_ix2, L3.w_lenT, L3.w_lenK, L3.w_int, L3.w_intB, L3.w_max, L3.w_min, L3.w_rng1, L3.w_rng2, L3.w_one, L3.w_ixK, L3.w_itS, L3.w_lenS, L3.w_many, L3.w_eqS, L3.w_neS, L3.w_isN, L3.w_isNN, L3.w_itTup, List.getElem?_cons_zero, List.getElem?_cons_succ, List.set_cons_zero, List.set_cons_succ, Option.some.injEq, exists_eq_left', decide_eq_true_eq, Bool.false_eq_true, if_false, if_true, Bool.not_true, Bool.not_false, mokG, mokP, mokA, mokE, mokL, mokS, true_and, D.isNon, D.cn, wipeL, s2.ss.g_vat, othF, Bool.not_eq_true', decide_eq_false_iff_not] at h ⊢ <;> split at h <;> rename_i hc <;> first | (rw [if_neg (not_not_intro hc)]; exact h) | (rw [if_pos hc]; exact h)
  rw [List.nil_append, oth_map]
  intro p2 hp2
  have s3 := s2.new (o := .lst ((oth S.vat).map .int)) hp2
  refine ⟨b, d, 3, rfl, by decide, s3.bx, fun r M2 r0 r1 bx2 f2 => ?_⟩
  have hpb : p2 ≠ b := by rintro rfl; exact s2.bx.has.1 hp2
  have g2 : M2 p2 = some (.lst ((oth S.vat).map .int)) := f2.get (a := p2) hpb mset_same
  have s4 := s3.at_ bx2 f2
  have fr : Fr (At b) M M2 := f1.trans ((Fr.new hp).trans ((Fr.new hp2).trans f2))
  have hl := oth_len v0 v1
  obtain ⟨n, rfl⟩ := Int.eq_ofNat_of_zero_le r0
  have hn : n < (oth S.vat).length := by omega
  refine (w_ixL g2).mpr ⟨_, atD_ints hn, ?_⟩
  obtain ⟨o1, o2, o3⟩ := oth_mem (List.getElem_mem hn)
  generalize (oth S.vat)[n] = v at o1 o2 o3
  have sel : ∀ (o : Bool) (v k : Int) (M' : Mp), v.natAbs ≤ 1000000 → k.natAbs ≤ 1000000 → Rg S.vat (rf o v k) → BX M' b d → Fr (At b) M2 M' → Q (rf o v k) M' := fun o v k M' h1 h2 h3 x f => q _ _ (.inl ⟨o, v, k, rfl, h1, h2, h3⟩) x (fr.trans f)
  have oth_ : ∀ (x : Str) (ds : List D) (M' : Mp), x ≠ "object" → x ≠ "promise" → x ≠ "list" → (D.tup (.str x :: ds)).sm = true → (D.tup (.str x :: ds)).bk ≤ 30 → (D.tup (.str x :: ds)).dp ≤ 1 → BX M' b d → Fr (At b) M2 M' → Q (.tup (.str x :: ds)) M' := fun x ds M' h1 h2 h3 h4 h5 h6 x f => q _ _ (.inr ⟨_, ds, rfl, h1, h2, h3, h4, h5, h6⟩) x (fr.trans f)
  simp only [wpSs, wpS, wpE, wpEs, wpT, L3.w_add, L3.w_addS, L3.w_addT, L3.w_sub, L3.w_mul, L3.w_fdiv, L3.w_mod, L3.w_pow, L3.w_shl, L3.w_iadd, L3.w_isub, L3.w_neg, L3.w_lt, L3.w_le, L3.w_gt, L3.w_ge, L3.w_eq, L3.w_ne, L3.w_in, L3.w_nin, L3.w_tb, L3.w_ti, L3.w_tt, L3.w_ix0, L3.w_ix1, L3.w_ix2, L3.w_lenT, L3.w_lenK, L3.w_int, L3.w_intB, L3.w_max, L3.w_min, L3.w_rng1, L3.w_rng2, L3.w_one, L3.w_ixK, L3.w_itS, L3.w_lenS, L3.w_many, L3.w_eqS, L3.w_neS, L3.w_isN, L3.w_isNN, L3.w_itTup, List.getElem?_cons_zero, List.getElem?_cons_succ, List.set_cons_zero, List.set_cons_succ, Option.some.injEq, exists_eq_left', decide_eq_true_eq, Bool.false_eq_true, if_false, if_true, Bool.not_true, Bool.not_false, mokG, mokP, mokA, mokE, mokL, mokS, true_and, D.isNon, D.cn, wipeL, s4.ss.g_vat]
  split
  · refine ⟨b, d, 3, rfl, by decide, bx2, fun r M3 r0 r1 bx3 f3 => ⟨one3 _ _ _, ?_⟩⟩
    exact sel true _ _ _ (by omega) (by omega) (.inl ⟨true, _, rfl, by omega, by omega⟩) bx3 f3
  split
  · simp only [s4.ss.g_top]
    refine ⟨b, d, S.top, rfl, by omega, bx2, fun r M3 r0 r1 bx3 f3 => ⟨one3 _ _ _, ?_⟩⟩
    exact sel false _ _ _ (by omega) (by omega) (.inl ⟨false, _, rfl, by omega, by omega⟩) bx3 f3
  split
  · refine ⟨b, d, 2, rfl, by decide, bx2, fun r M3 r0 r1 bx3 f3 => ⟨one3 _ _ _, ?_⟩⟩
    exact sel true _ _ _ (by omega) (by omega) (.inr ⟨true, _, _, rfl, o1, o2, o3, by omega, by omega⟩) bx3 f3
  split
  · refine ⟨b, d, 2, rfl, by decide, bx2, fun r M3 r0 r1 bx3 f3 => ⟨one3 _ _ _, ?_⟩⟩
    exact sel false _ _ _ (by omega) (by omega) (.inr ⟨false, _, _, rfl, o1, o2, o3, by omega, by omega⟩) bx3 f3
  refine ⟨sl_small 1, sl_small 2, b, d, 99, rfl, by decide, bx2, fun r M3 r0 r1 bx3 f3 => ⟨one2 _ _, one2 _ _, one4 _ _ _ _, fun p3 hp3 => ?_⟩⟩
  refine ⟨b, d, 4, rfl, by decide, bx3.new hp3, fun k M4 k0 k1 bx4 f4 => ?_⟩
  have hpb : p3 ≠ b := by rintro rfl; exact bx3.has.1 hp3
  have g4 := f4.get (a := p3) hpb mset_same
  have fr2 : Fr (At b) M2 M4 := f3.trans ((Fr.new hp3).trans f4)
  have : k = 0 ∨ k = 1 ∨ k = 2 ∨ k = 3 := by omega
  rcases this with rfl | rfl | rfl | rfl
  · exact (w_ixL g4).mpr ⟨_, rfl, oth_ _ _ _ (by decide) (by decide) (by decide) rfl (Nat.le_of_ble_eq_true rfl) (Nat.le_of_ble_eq_true rfl) bx4 fr2⟩
  · exact (w_ixL g4).mpr ⟨_, rfl, oth_ _ _ _ (by decide) (by decide) (by decide) rfl (Nat.le_of_ble_eq_true rfl) (Nat.le_of_ble_eq_true rfl) bx4 fr2⟩
  · exact (w_ixL g4).mpr ⟨_, rfl, oth_ _ _ _ (by decide) (by decide) (by decide) (smt (smc rfl (smc (int_sm (by omega)) smn))) (Nat.le_of_ble_eq_true rfl) (Nat.le_of_ble_eq_true rfl) bx4 fr2⟩
  · exact (w_ixL g4).mpr ⟨_, rfl, oth_ _ _ _ (by decide) (by decide) (by decide) rfl (Nat.le_of_ble_eq_true rfl) (Nat.le_of_ble_eq_true rfl) bx4 fr2⟩
end K25
end
section
set_option autoImplicit false
set_option linter.all false
set_option maxRecDepth 100000
set_option maxHeartbeats 4000000
namespace K25
open L3
open PySem (Addr Str PyData NestedKey)
theorem ok__law_value : Keeps P0 sp__law_value 3 b__law_value := by
  rintro ds M Q X ⟨b, d, s, ls, S, rfl, sb, g, q⟩
  show wpSs P0 b__law_value _ _ [some (.ref b), some (.ref s), none] M
  unfold b__law_value
  simp only [wpSs, wpS, wpE, wpEs, wpT, L3.w_add, L3.w_addS, L3.w_addT, L3.w_sub, L3.w_mul, L3.w_fdiv, L3.w_mod, L3.w_pow, L3.w_shl, L3.w_iadd, L3.w_isub, L3.w_neg, L3.w_lt, L3.w_le, L3.w_gt, L3.w_ge, L3.w_eq, L3.w_ne, L3.w_in, L3.w_nin, L3.w_tb, L3.w_ti, L3.w_tt, L3.w_ix0, L3.w_ix1, L3.w_ix2, L3.w_lenT, L3.w_lenK, L3.w_int, L3.w_intB, L3.w_max, L3.w_min, L3.w_rng1, L3.w_rng2, L3.w_one, L3.w_ixK, L3.w_itS, L3.w_lenS, L3.w_many, L3.w_eqS, L3.w_neS, L3.w_isN, L3.w_isNN, L3.w_itTup, List.getElem?_cons_zero, List.getElem?_cons_succ, List.set_cons_zero, List.set_cons_succ, Option.some.injEq, exists_eq_left', decide_eq_true_eq, Bool.false_eq_true, if_false, if_true, Bool.not_true, Bool.not_false, mokG, mokP, mokA, mokE, mokL, mokS, true_and, D.isNon, D.cn, wipeL]
  refine ⟨b, d, 6, rfl, by decide, sb.bx, fun e M1 e0 e1 bx1 f1 => ?_⟩
  simp only [wpSs, wpS, wpE, wpEs, wpT, L3.w_add, L3.w_addS, L3.w_addT, L3.w_sub, L3.w_mul, L3.w_fdiv, L3.w_mod, L3.w_pow, L3.w_shl, L3.w_iadd, L3.w_isub, L3.w_neg, L3.w_lt, L3.w_le, L3.w_gt, L3.w_ge, L3.w_eq, L3.w_ne, L3.w_in, L3.w_nin, L3.w_tb, L3.w_ti, L3.w_tt, L3.w_ix0, L3.w_ix1, L3.w_ix2, L3.w_lenT, L3.w_lenK, L3.w_int, L3.w_intB, L3.w_max, L3.w_min, L3.w_rng1, L3.w_rng2, L3.w_one, L3.w_ixK, L3.w_itS, L3.w_lenS, L3.w_many, L3.w_eqS, L3.w_neS, L3.w_isN, L3.w_isNN, L3.w_itTup, List.getElem?_cons_zero, List.getElem?_cons_succ, List.set_cons_zero, List.set_cons_succ, Option.some.injEq, exists_eq_left', decide_eq_true_eq, Bool.false_eq_true, if_false, if_true, Bool.not_true, Bool.not_false, mokG, mokP, mokA, mokE, mokL, mokS, true_and, D.isNon, D.cn, wipeL]
  split
  · exact ⟨b, d, s, ls, S, rfl, sb.at_ bx1 f1, g, fun v M2 hv bx2 f2 => q _ _ (.inl hv) bx2 (f1.trans f2)⟩
  refine ⟨b, d, 4, rfl, by decide, bx1, fun n M2 n0 n1 bx2 f2 => ⟨sm0 (by omega) (by omega), ?_⟩⟩
  refine compL_inv (fun i acc M' => acc.length = i ∧ (∀ a ∈ acc, Atom (Rg S.vat) a) ∧ SB M' b d s ls S ∧ Fr (At b) M M') ⟨rfl, fun _ h => absurd h List.not_mem_nil, (sb.at_ bx1 f1).at_ bx2 f2, f1.trans f2⟩ (by rw [dRange_len]; exact sl_small _) ?_ ?_
  · rintro i x acc M3 kk hx ⟨hl, ha, sb3, f3⟩ hkk
    refine ⟨trivial, ?_⟩
    refine ⟨b, d, s, ls, S, rfl, sb3, g, fun v M4 hv bx4 f4 => hkk _ _ ⟨by simp [hl], ?_, sb3.at_ bx4 f4, f3.trans f4⟩⟩
    intro a h
    rcases List.mem_append.mp h with h | h
    · exact ha a h
    · rw [List.mem_singleton] at h; subst h; exact hv
  · rintro acc M3 ⟨hl, ha, sb3, f3⟩
    refine ⟨trivial, fun p hp => ?_⟩
    refine (w_tupL mset_same).mpr ⟨one2 _ _, ?_⟩
    rw [dRange_len] at hl
    exact q _ _ (.inr ⟨acc, rfl, by omega, ha⟩) (sb3.bx.new hp) (f3.trans (Fr.new hp))
end K25
end
section
set_option autoImplicit false
set_option linter.all false
set_option maxRecDepth 100000
set_option maxHeartbeats 4000000
namespace K25
open L3
open PySem (Addr Str PyData NestedKey)
theorem ok__law_settled : Keeps P0 sp__law_settled 2 b__law_settled := by
  rintro ds M Q X ⟨b, d, s, ls, S, rfl, sb, g, q⟩
  show wpSs P0 b__law_settled _ _ [some (.ref b), some (.ref s)] M
  unfold b__law_settled
  simp only [wpSs, wpS, wpE, wpEs, wpT, L3.w_add, L3.w_addS, L3.w_addT, L3.w_sub, L3.w_mul, L3.w_fdiv, L3.w_mod, L3.w_pow, L3.w_shl, L3.w_iadd, L3.w_isub, L3.w_neg, L3.w_lt, L3.w_le, L3.w_gt, L3.w_ge, L3.w_eq, L3.w_ne, L3.w_in, L3.w_nin, L3.w_tb, L3.w_ti, L3.w_tt, L3.w_ix0, L3.w_ix1, L3.w_ix2, L3.w_lenT, L3.w_lenK, L3.w_int, L3.w_intB, L3.w_max, L3.w_min, L3.w_rng1, L3.w_rng2, L3.w_one, L3.w_ixK, L3.w_itS, L3.w_lenS, L3.w_many, L3.w_eqS, L3.w_neS, L3.w_isN, L3.w_isNN, L3.w_itTup, List.getElem?_cons_zero, List.getElem?_cons_succ, List.set_cons_zero, List.set_cons_succ, Option.some.injEq, exists_eq_left', decide_eq_true_eq, Bool.false_eq_true, if_false, if_true, Bool.not_true, Bool.not_false, mokG, mokP, mokA, mokE, mokL, mokS, true_and, D.isNon, D.cn, wipeL]
  refine ⟨b, d, 4, rfl, by decide, sb.bx, fun e M1 e0 e1 bx1 f1 => ?_⟩
  simp only [wpSs, wpS, wpE, wpEs, wpT, L3.w_add, L3.w_addS, L3.w_addT, L3.w_sub, L3.w_mul, L3.w_fdiv, L3.w_mod, L3.w_pow, L3.w_shl, L3.w_iadd, L3.w_isub, L3.w_neg, L3.w_lt, L3.w_le, L3.w_gt, L3.w_ge, L3.w_eq, L3.w_ne, L3.w_in, L3.w_nin, L3.w_tb, L3.w_ti, L3.w_tt, L3.w_ix0, L3.w_ix1, L3.w_ix2, L3.w_lenT, L3.w_lenK, L3.w_int, L3.w_intB, L3.w_max, L3.w_min, L3.w_rng1, L3.w_rng2, L3.w_one, L3.w_ixK, L3.w_itS, L3.w_lenS, L3.w_many, L3.w_eqS, L3.w_neS, L3.w_isN, L3.w_isNN, L3.w_itTup, List.getElem?_cons_zero, List.getElem?_cons_succ, List.set_cons_zero, List.set_cons_succ, Option.some.injEq, exists_eq_left', decide_eq_true_eq, Bool.false_eq_true, if_false, if_true, Bool.not_true, Bool.not_false, mokG, mokP, mokA, mokE, mokL, mokS, true_and, D.isNon, D.cn, wipeL]
  split
  · refine ⟨one2 _ _, fun p hp => ?_⟩
    refine ⟨b, d, 2, rfl, by decide, bx1.new hp, fun r M2 r0 r1 bx2 f2 => ?_⟩
    have hpb : p ≠ b := by rintro rfl; exact bx1.has.1 hp
    have g2 : M2 p = some (.lst [.str "oh", .str "not an object"]) := f2.get (a := p) hpb mset_same
    have fr : Fr (At b) M M2 := f1.trans (((Fr.new hp).trans f2))
    have : r = 0 ∨ r = 1 := by omega
    rcases this with rfl | rfl
    · exact (w_ixL g2).mpr ⟨_, rfl, one2 _ _, q _ _ (.inr ⟨_, rfl, rfl, Nat.le_of_ble_eq_true rfl⟩) bx2 fr⟩
    · exact (w_ixL g2).mpr ⟨_, rfl, one2 _ _, q _ _ (.inr ⟨_, rfl, rfl, Nat.le_of_ble_eq_true rfl⟩) bx2 fr⟩
  · refine ⟨b, d, s, ls, S, rfl, sb.at_ bx1 f1, g, fun v M2 hv bx2 f2 => ⟨one2 _ _, ?_⟩⟩
    exact q _ _ (.inl ⟨v, rfl, hv⟩) bx2 (f1.trans f2)
end K25
end
section
set_option autoImplicit false
set_option linter.all false
set_option maxRecDepth 100000
set_option maxHeartbeats 4000000
namespace K25
open L3
open PySem (Addr Str PyData NestedKey)
theorem ok__law_weight : Keeps P0 sp__law_weight 2 b__law_weight := by
  rintro ds M Q X ⟨b, d, rfl, bx, q⟩
  show wpSs P0 b__law_weight _ _ [some (.ref b), none] M
  unfold b__law_weight
  simp only [wpSs, wpS, wpE, wpEs, wpT, L3.w_add, L3.w_addS, L3.w_addT, L3.w_sub, L3.w_mul, L3.w_fdiv, L3.w_mod, L3.w_pow, L3.w_shl, L3.w_iadd, L3.w_isub, L3.w_neg, L3.w_lt, L3.w_le, L3.w_gt, L3.w_ge, L3.w_eq, L3.w_ne, L3.w_in, L3.w_nin, L3.w_tb, L3.w_ti, L3.w_tt, L3.w_ix0, L3.w_ix1, L3.w_ix2, L3.w_lenT, L3.w_lenK, L3.w_int, L3.w_intB, L3.w_max, L3.w_min, L3.w_rng1, L3.w_rng2, L3.w_one, L3.w_ixK, L3.w_itS, L3.w_lenS, L3.w_many, L3.w_eqS, L3.w_neS, L3.w_isN, L3.w_isNN, L3.w_itTup, List.getElem?_cons_zero, List.getElem?_cons_succ, List.set_cons_zero, List.set_cons_succ, Option.some.injEq, exists_eq_left', decide_eq_true_eq, Bool.false_eq_true, if_false, if_true, Bool.not_true, Bool.not_false, mokG, mokP, mokA, mokE, mokL, mokS, true_and, D.isNon, D.cn, wipeL]
  refine ⟨b, d, 5, rfl, by decide, bx, fun e M1 e0 e1 bx1 f1 => ?_⟩
  simp only [wpSs, wpS, wpE, wpEs, wpT, L3.w_add, L3.w_addS, L3.w_addT, L3.w_sub, L3.w_mul, L3.w_fdiv, L3.w_mod, L3.w_pow, L3.w_shl, L3.w_iadd, L3.w_isub, L3.w_neg, L3.w_lt, L3.w_le, L3.w_gt, L3.w_ge, L3.w_eq, L3.w_ne, L3.w_in, L3.w_nin, L3.w_tb, L3.w_ti, L3.w_tt, L3.w_ix0, L3.w_ix1, L3.w_ix2, L3.w_lenT, L3.w_lenK, L3.w_int, L3.w_intB, L3.w_max, L3.w_min, L3.w_rng1, L3.w_rng2, L3.w_one, L3.w_ixK, L3.w_itS, L3.w_lenS, L3.w_many, L3.w_eqS, L3.w_neS, L3.w_isN, L3.w_isNN, L3.w_itTup, List.getElem?_cons_zero, List.getElem?_cons_succ, List.set_cons_zero, List.set_cons_succ, Option.some.injEq, exists_eq_left', decide_eq_true_eq, Bool.false_eq_true, if_false, if_true, Bool.not_true, Bool.not_false, mokG, mokP, mokA, mokE, mokL, mokS, true_and, D.isNon, D.cn, wipeL]
  split
  · refine ⟨b, d, 6, rfl, by decide, bx1, fun r M2 r0 r1 bx2 f2 => ⟨one2 _ _, ?_⟩⟩
    refine q (1 + r, 0) M2 ⟨?_, Nat.zero_le _⟩ bx2 (f1.trans f2)
    show (1 + r).natAbs ≤ 17 * 1
    omega
  · refine ⟨b, d, 9, rfl, by decide, bx1, fun r M2 r0 r1 bx2 f2 => ⟨.inl ⟨by decide, by decide⟩, one2 _ _, ?_⟩⟩
    obtain ⟨n, rfl⟩ := Int.eq_ofNat_of_zero_le e0
    refine q (1 + 2 * r, n) M2 ⟨?_, by show n ≤ 4; omega⟩ bx2 (f1.trans f2)
    show (1 + 2 * r).natAbs ≤ 17 * 2 ^ n
    have : 1 ≤ 2 ^ n := Nat.one_le_two_pow
    omega
end K25
end
section
set_option autoImplicit false
set_option linter.all false
set_option maxRecDepth 100000
set_option maxHeartbeats 4000000
namespace K25
open L3
open PySem (Addr Str PyData NestedKey)
theorem ok__law_outcome : Keeps P0 sp__law_outcome 5 b__law_outcome := by
  rintro ds M Q X ⟨b, d, s, ls, S, rfl, sb, g, q⟩
  have v0 := g.v0
  have v1 := g.v1
  show wpSs P0 b__law_outcome _ _ [some (.ref b), some (.ref s), none, none, none] M
  unfold b__law_outcome
  simp only [wpSs, wpS, wpE, wpEs, wpT, L3.w_add, L3.w_addS, L3.w_addT, L3.w_sub, L3.w_mul, L3.w_fdiv, L3.w_mod, L3.w_pow, L3.w_shl, L3.w_iadd, L3.w_isub, L3.w_neg, L3.w_lt, L3.w_le, L3.w_gt, L3.w_ge, L3.w_eq, L3.w_ne, L3.w_in, L3.w_nin, L3.w_tb, L3.w_ti, L3.w_tt, L3.w_ix0, L3.w_ix1, L3.w_ix2, L3.w_lenT, L3.w_lenK, L3.w_int, L3.w_intB, L3.w_max, L3.w_min, L3.w_rng1, L3.w_rng2, L3.w_one, L3.w_ixK, L3.w_itS, L3.w_lenS, L3.w_many, L3.w_eqS, L3.w_neS, L3.w_isN, L3.w_isNN, L3.w_itTup, List.getElem?_cons_zero, List.getElem?_cons_succ, List.set_cons_zero, List.set_cons_succ, Option.some.injEq, exists_eq_left', decide_eq_true_eq, Bool.false_eq_true, if_false, if_true, Bool.not_true, Bool.not_false, mokG, mokP, mokA, mokE, mokL, mokS, true_and, D.isNon, D.cn, wipeL]
  refine ⟨b, d, 6, rfl, by decide, sb.bx, fun e M1 e0 e1 bx1 f1 => ?_⟩
  have s1 := sb.at_ bx1 f1
  simp only [wpSs, wpS, wpE, wpEs, wpT, L3.w_add, L3.w_addS, L3.w_addT, L3.w_sub, L3.w_mul, L3.w_fdiv, L3.w_mod, L3.w_pow, L3.w_shl, L3.w_iadd, L3.w_isub, L3.w_neg, L3.w_lt, L3.w_le, L3.w_gt, L3.w_ge, L3.w_eq, L3.w_ne, L3.w_in, L3.w_nin, L3.w_tb, L3.w_ti, L3.w_tt, L3.w_ix0, L3.w_ix1, L3.w_ix2, L3.w_lenT, L3.w_lenK, L3.w_int, L3.w_intB, L3.w_max, L3.w_min, L3.w_rng1, L3.w_rng2, L3.w_one, L3.w_ixK, L3.w_itS, L3.w_lenS, L3.w_many, L3.w_eqS, L3.w_neS, L3.w_isN, L3.w_isNN, L3.w_itTup, List.getElem?_cons_zero, List.getElem?_cons_succ, List.set_cons_zero, List.set_cons_succ, Option.some.injEq, exists_eq_left', decide_eq_true_eq, Bool.false_eq_true, if_false, if_true, Bool.not_true, Bool.not_false, mokG, mokP, mokA, mokE, mokL, mokS, true_and, D.isNon, D.cn, wipeL]
  split
  · exact ⟨sl_small 1, q _ _ (.inl rfl) bx1 f1⟩
  split
  · refine ⟨by show 4 ≤ 2 ^ 24; decide, fun p hp => ?_⟩
    have s2 := s1.new (o := .lst [.int 1, .int 2, .int 3, .int 4]) hp
    refine (w_itL mset_same).mpr ?_
    refine compL_pure (othF S.vat) mset_same ?_ (by show 0 + 4 ≤ 2 ^ 24; decide) ?_
    · intro x hx kk h
      simp only [List.mem_cons, List.not_mem_nil, or_false] at hx
      simp only [wpSs, wpS, wpE, wpEs, wpT, L3.w_add, L3.w_addS, L3.w_addT, L3.w_sub, L3.w_mul, L3.w_fdiv, L3.w_mod, L3.w_pow, L3.w_shl, L3.w_iadd, L3.w_isub, L3.w_neg, L3.w_lt, L3.w_le, L3.w_gt, L3.w_ge, L3.w_eq, L3.w_ne, L3.w_in, L3.w_nin, L3.w_tb, L3.w_ti, L3.w_tt, L3.w_ix0, L3.w_ix1, L3.w_ix2, L3.w_lenT, L3.w_lenK, L3.w_int, L3.w_intB, L3.w_max, L3.w_min, L3.w_rng1, L3.w_rng2, L3.w_one, L3.w_ixK, L3.w_itS, L3.w_lenS, L3.w_many, L3.w_eqS, L3.w_neS, L3.w_isN, L3.w_isNN, L3.w_itTup, List.getElem?_cons_zero, List.getElem?_cons_succ, List.set_cons_zero, List.set_cons_succ, Option.some.injEq, exists_eq_left', decide_eq_true_eq, Bool.false_eq_true, if_false, if_true, Bool.not_true, Bool.not_false, mokG, mokP, mokA, mokE, mokL, mokS, true_and, D.isNon, D.cn, wipeL, s2.ss.g_vat]
      rcases hx with rfl | rfl | rfl | rfl <;> simp only [wpSs, wpS, wpE, wpEs, wpT, L3.w_add, L3.w_addS, L3.w_addT, L3.w_sub, L3.w_mul, L3.w_fdiv, L3.w_mod, L3.w_pow, L3.w_shl, L3.w_iadd, L3.w_isub, L3.w_neg, L3.w_lt, L3.w_le, L3.w_gt, L3.w_ge, L3.w_eq, L3.w_ne, L3.w_in, L3.w_nin, L3.w_tb, L3.w_ti, L3.w_tt, L3.w_ix0, L3.w_ix1, L3.w_ix2, L3.w_lenT, L3.w_lenK, L3.w_int, L3.w_intB, L3.w_max, L3.w_min, L3.w_rng1, L3.w_rng2, L3.w_one, L3.w_ixK, L3.w_itS, L3.w_lenS, L3.w_many, L3.w_eqS, L3.w_neS, L3.w_isN, L3.w_isNN, L3.w_itTup, List.getElem?_cons_zero, List.getElem?_cons_succ, List.set_cons_zero, List.set_cons_succ, Option.some.injEq, exists_eq_left', decide_eq_true_eq, Bool.false_eq_true, if_false, if_true, Bool.not_true, Bool.not_false, mokG, mokP, mokA, mokE, mokL, mokS, true_and, D.isNon, D.cn, wipeL, s2.ss.g_vat, othF, Bool.not_eq_true', decide_eq_false_iff_not] at h ⊢ <;> split at h <;> rename_i hc <;> first | (rw [if_neg (not_not_intro hc)]; exact h) | (rw [if_pos hc]; exact h)
    rw [List.nil_append, oth_map]
    intro p2 hp2
    have s3 := s2.new (o := .lst ((oth S.vat).map .int)) hp2
    refine ⟨b, d, 3, rfl, by decide, s3.bx, fun r M2 r0 r1 bx2 f2 => ?_⟩
    have hpb : p2 ≠ b := by rintro rfl; exact s2.bx.has.1 hp2
    have g2 : M2 p2 = some (.lst ((oth S.vat).map .int)) := f2.get (a := p2) hpb mset_same
    have fr : Fr (At b) M M2 := f1.trans ((Fr.new hp).trans ((Fr.new hp2).trans f2))
    have hl := oth_len v0 v1
    obtain ⟨n, rfl⟩ := Int.eq_ofNat_of_zero_le r0
    have hn : n < (oth S.vat).length := by omega
    refine (w_ixL g2).mpr ⟨_, atD_ints hn, ?_⟩
    obtain ⟨o1, o2, o3⟩ := oth_mem (List.getElem_mem hn)
    generalize (oth S.vat)[n] = v at o1 o2 o3
    refine ⟨b, d, 5, rfl, by decide, bx2, fun k M3 k0 k1 bx3 f3 => ?_⟩
    refine ⟨b, d, rfl, bx3, fun w M4 hw bx4 f4 => ⟨one4 _ _ _ _, ?_⟩⟩
    exact q _ _ (.inr (.inr ⟨v, 1 + k, w, rfl, by omega, by omega, hw⟩)) bx4 (fr.trans (f3.trans f4))
  · exact ⟨b, d, s, ls, S, rfl, s1, g, fun r M2 hr bx2 f2 => q _ _ (.inr (.inl hr)) bx2 (f1.trans f2)⟩
end K25
end
section
set_option autoImplicit false
set_option linter.all false
set_option maxRecDepth 100000
set_option maxHeartbeats 4000000
namespace K25
open L3
open PySem (Addr Str PyData NestedKey)
theorem ok__law_load : Keeps P0 sp__law_load 8 b__law_load := by
  rintro ds M Q X ⟨t, lt, s, ls, S, g, rfl, T0_, U0, dj, L, q⟩
  show wpSs P0 b__law_load _ _ [some (.ref t), some (.ref s), none, none, none, none, none, none] M
  unfold b__law_load
  simp only [wpSs, wpS, wpE, wpEs, wpT, L3.w_add, L3.w_addS, L3.w_addT, L3.w_sub, L3.w_mul, L3.w_fdiv, L3.w_mod, L3.w_pow, L3.w_shl, L3.w_iadd, L3.w_isub, L3.w_neg, L3.w_lt, L3.w_le, L3.w_gt, L3.w_ge, L3.w_eq, L3.w_ne, L3.w_in, L3.w_nin, L3.w_tb, L3.w_ti, L3.w_tt, L3.w_ix0, L3.w_ix1, L3.w_ix2, L3.w_lenT, L3.w_lenK, L3.w_int, L3.w_intB, L3.w_max, L3.w_min, L3.w_rng1, L3.w_rng2, L3.w_one, L3.w_ixK, L3.w_itS, L3.w_lenS, L3.w_many, L3.w_eqS, L3.w_neS, L3.w_isN, L3.w_isNN, L3.w_itTup, List.getElem?_cons_zero, List.getElem?_cons_succ, List.set_cons_zero, List.set_cons_succ, Option.some.injEq, exists_eq_left', decide_eq_true_eq, Bool.false_eq_true, if_false, if_true, Bool.not_true, Bool.not_false, mokG, mokP, mokA, mokE, mokL, mokS, true_and, D.isNon, D.cn, wipeL, T0_.g_objects hF, T0_.g_promises hF, T0_.g_answers hF, T0_.g_lent hF, T0_.g_held hF]
  refine ⟨one2 _ _, one2 _ _, one2 _ _, one2 _ _, one2 _ _, by show 5 ≤ 2 ^ 24; decide, fun p1 h1 => ?_⟩
  have T1 := T0_.new (o := .lst [.tup [.ref (lt .objects), .str "objects"], .tup [.ref (lt .promises), .str "promises"], .tup [.ref (lt .answers), .str "answers"], .tup [.ref (lt .lent), .str "lent"], .tup [.ref (lt .held), .str "held"]]) h1
  simp only [wpSs, wpS, wpE, wpEs, wpT, L3.w_add, L3.w_addS, L3.w_addT, L3.w_sub, L3.w_mul, L3.w_fdiv, L3.w_mod, L3.w_pow, L3.w_shl, L3.w_iadd, L3.w_isub, L3.w_neg, L3.w_lt, L3.w_le, L3.w_gt, L3.w_ge, L3.w_eq, L3.w_ne, L3.w_in, L3.w_nin, L3.w_tb, L3.w_ti, L3.w_tt, L3.w_ix0, L3.w_ix1, L3.w_ix2, L3.w_lenT, L3.w_lenK, L3.w_int, L3.w_intB, L3.w_max, L3.w_min, L3.w_rng1, L3.w_rng2, L3.w_one, L3.w_ixK, L3.w_itS, L3.w_lenS, L3.w_many, L3.w_eqS, L3.w_neS, L3.w_isN, L3.w_isNN, L3.w_itTup, List.getElem?_cons_zero, List.getElem?_cons_succ, List.set_cons_zero, List.set_cons_succ, Option.some.injEq, exists_eq_left', decide_eq_true_eq, Bool.false_eq_true, if_false, if_true, Bool.not_true, Bool.not_false, mokG, mokP, mokA, mokE, mokL, mokS, true_and, D.isNon, D.cn, wipeL, T1.g_known hF, T1.g_hoped hF, T1.g_places hF, T1.g_arrived hF, T1.g_pins hF]
  refine ⟨one2 _ _, one2 _ _, one2 _ _, one2 _ _, one2 _ _, by show 5 ≤ 2 ^ 24; decide, fun p2 h2 => ?_⟩
  refine (w_addL ((mset_ne (Fr.ne mset_same h2)).trans mset_same) mset_same).mpr ⟨by show 10 ≤ 2 ^ 24; decide, fun p3 h3 => ?_⟩
  refine (w_itL mset_same).mpr ?_
  have n1 : Fr No M _ := (Fr.new (o := .lst [.tup [.ref (lt .objects), .str "objects"], .tup [.ref (lt .promises), .str "promises"], .tup [.ref (lt .answers), .str "answers"], .tup [.ref (lt .lent), .str "lent"], .tup [.ref (lt .held), .str "held"]]) h1).trans (Fr.new (o := .lst [.tup [.ref (lt .known), .str "known"], .tup [.ref (lt .hoped), .str "hoped"], .tup [.ref (lt .places), .str "places"], .tup [.ref (lt .arrived), .str "arrived"], .tup [.ref (lt .pins), .str "pins"]]) h2)
  have p3n : M p3 = none := n1.no0 (fun w => w) h3
  have f3 : Fr No M _ := n1.trans (Fr.new (o := .lst ([.tup [.ref (lt .objects), .str "objects"], .tup [.ref (lt .promises), .str "promises"], .tup [.ref (lt .answers), .str "answers"], .tup [.ref (lt .lent), .str "lent"], .tup [.ref (lt .held), .str "held"]] ++ [.tup [.ref (lt .known), .str "known"], .tup [.ref (lt .hoped), .str "hoped"], .tup [.ref (lt .places), .str "places"], .tup [.ref (lt .arrived), .str "arrived"], .tup [.ref (lt .pins), .str "pins"]])) h3)
  have g3 : _ = some (MO.lst ([.tup [.ref (lt .objects), .str "objects"], .tup [.ref (lt .promises), .str "promises"], .tup [.ref (lt .answers), .str "answers"], .tup [.ref (lt .lent), .str "lent"], .tup [.ref (lt .held), .str "held"]] ++ [.tup [.ref (lt .known), .str "known"], .tup [.ref (lt .hoped), .str "hoped"], .tup [.ref (lt .places), .str "places"], .tup [.ref (lt .arrived), .str "arrived"], .tup [.ref (lt .pins), .str "pins"]])) := mset_same (M := mset (mset M p1 (.lst [.tup [.ref (lt .objects), .str "objects"], .tup [.ref (lt .promises), .str "promises"], .tup [.ref (lt .answers), .str "answers"], .tup [.ref (lt .lent), .str "lent"], .tup [.ref (lt .held), .str "held"]])) p2 (.lst [.tup [.ref (lt .known), .str "known"], .tup [.ref (lt .hoped), .str "hoped"], .tup [.ref (lt .places), .str "places"], .tup [.ref (lt .arrived), .str "arrived"], .tup [.ref (lt .pins), .str "pins"]])) (a := p3)
  have T3 := T0_.fr f3 fun a w _ => w
  have U3 := U0.fr f3 fun a w _ => w
  have Q3 : Fr (OT t lt) M _ := f3.any
  have key : ∀ (p : Addr) (PL : MO), M p = none → ∀ (f : Fl) (N N' : Mp) (Sk : Tb) (o : MO), (TT N t lt Sk ∧ SS N s ls S ∧ Fr (OT t lt) M N ∧ N p = some PL) → Fr (At (lt f)) N N' → N' (lt f) = some o → Tb.fit f o → (TT N' t lt (Sk.put f o) ∧ SS N' s ls S ∧ Fr (OT t lt) M N' ∧ N' p = some PL) := by
    intro p PL hp f N N' Sk o ⟨a, b, c, d⟩ f1 e1 ft
    refine ⟨a.wr f1 e1 ft, b.fr f1 fun x e w => dj x (.inr ⟨f, e⟩) w, c.trans (f1.mono fun x e => .inr ⟨f, e⟩), f1.get ?_ d⟩
    rintro rfl
    rw [T0_.box] at hp; cases hp
  have nn : ∀ i j : Fl, j ≠ .order → lt i ≠ ls j := fun i j n e => dj (lt i) (.inr ⟨i, rfl⟩) (.inr ⟨j, n, e⟩)
  have ns : ∀ i : Fl, lt i ≠ s := fun i e => dj (lt i) (.inr ⟨i, rfl⟩) (.inl e)
  have I0 := And.intro T3 (And.intro U3 (And.intro Q3 g3))
  revert I0
  generalize mset (mset (mset M p1 _) p2 _) p3 _ = N0
  intro I0
  refine ⟨I0.2.2.2, _, rfl, ?_⟩
  unfold b__law_load_3
  simp only [wpSs, wpS, wpE, wpEs, wpT, L3.w_add, L3.w_addS, L3.w_addT, L3.w_sub, L3.w_mul, L3.w_fdiv, L3.w_mod, L3.w_pow, L3.w_shl, L3.w_iadd, L3.w_isub, L3.w_neg, L3.w_lt, L3.w_le, L3.w_gt, L3.w_ge, L3.w_eq, L3.w_ne, L3.w_in, L3.w_nin, L3.w_tb, L3.w_ti, L3.w_tt, L3.w_ix0, L3.w_ix1, L3.w_ix2, L3.w_lenT, L3.w_lenK, L3.w_int, L3.w_intB, L3.w_max, L3.w_min, L3.w_rng1, L3.w_rng2, L3.w_one, L3.w_ixK, L3.w_itS, L3.w_lenS, L3.w_many, L3.w_eqS, L3.w_neS, L3.w_isN, L3.w_isNN, L3.w_itTup, List.getElem?_cons_zero, List.getElem?_cons_succ, List.set_cons_zero, List.set_cons_succ, Option.some.injEq, exists_eq_left', decide_eq_true_eq, Bool.false_eq_true, if_false, if_true, Bool.not_true, Bool.not_false, mokG, mokP, mokA, mokE, mokL, mokS, true_and, D.isNon, D.cn, wipeL, I0.2.1.g_objects]
  refine load_D (w := "objects") I0.2.1.dct rfl I0.2.1.b_objects (I0.1.box .objects) (nn _ _ nofun) (ns _) (I0.2.1.ne _ nofun) L.objects fun k0 M0 f0 e0 => ?_
  have I1 := key p3 _ p3n .objects _ _ _ (.dct S.objects) I0 f0 e0 trivial
  show forL _ _ _ _ _ _ (unlk (ls .objects) M0)
  clear f0 e0
  revert I1
  generalize unlk (ls .objects) M0 = N1
  intro I1
  refine ⟨I1.2.2.2, _, rfl, ?_⟩
  simp only [wpSs, wpS, wpE, wpEs, wpT, L3.w_add, L3.w_addS, L3.w_addT, L3.w_sub, L3.w_mul, L3.w_fdiv, L3.w_mod, L3.w_pow, L3.w_shl, L3.w_iadd, L3.w_isub, L3.w_neg, L3.w_lt, L3.w_le, L3.w_gt, L3.w_ge, L3.w_eq, L3.w_ne, L3.w_in, L3.w_nin, L3.w_tb, L3.w_ti, L3.w_tt, L3.w_ix0, L3.w_ix1, L3.w_ix2, L3.w_lenT, L3.w_lenK, L3.w_int, L3.w_intB, L3.w_max, L3.w_min, L3.w_rng1, L3.w_rng2, L3.w_one, L3.w_ixK, L3.w_itS, L3.w_lenS, L3.w_many, L3.w_eqS, L3.w_neS, L3.w_isN, L3.w_isNN, L3.w_itTup, List.getElem?_cons_zero, List.getElem?_cons_succ, List.set_cons_zero, List.set_cons_succ, Option.some.injEq, exists_eq_left', decide_eq_true_eq, Bool.false_eq_true, if_false, if_true, Bool.not_true, Bool.not_false, mokG, mokP, mokA, mokE, mokL, mokS, true_and, D.isNon, D.cn, wipeL, I1.2.1.g_promises]
  refine load_D (w := "promises") I1.2.1.dct rfl I1.2.1.b_promises (I1.1.box .promises) (nn _ _ nofun) (ns _) (I1.2.1.ne _ nofun) L.promises fun k1 M1 f1 e1 => ?_
  have I2 := key p3 _ p3n .promises _ _ _ (.dct S.promises) I1 f1 e1 trivial
  show forL _ _ _ _ _ _ (unlk (ls .promises) M1)
  clear f1 e1
  revert I2
  generalize unlk (ls .promises) M1 = N2
  intro I2
  refine ⟨I2.2.2.2, _, rfl, ?_⟩
  simp only [wpSs, wpS, wpE, wpEs, wpT, L3.w_add, L3.w_addS, L3.w_addT, L3.w_sub, L3.w_mul, L3.w_fdiv, L3.w_mod, L3.w_pow, L3.w_shl, L3.w_iadd, L3.w_isub, L3.w_neg, L3.w_lt, L3.w_le, L3.w_gt, L3.w_ge, L3.w_eq, L3.w_ne, L3.w_in, L3.w_nin, L3.w_tb, L3.w_ti, L3.w_tt, L3.w_ix0, L3.w_ix1, L3.w_ix2, L3.w_lenT, L3.w_lenK, L3.w_int, L3.w_intB, L3.w_max, L3.w_min, L3.w_rng1, L3.w_rng2, L3.w_one, L3.w_ixK, L3.w_itS, L3.w_lenS, L3.w_many, L3.w_eqS, L3.w_neS, L3.w_isN, L3.w_isNN, L3.w_itTup, List.getElem?_cons_zero, List.getElem?_cons_succ, List.set_cons_zero, List.set_cons_succ, Option.some.injEq, exists_eq_left', decide_eq_true_eq, Bool.false_eq_true, if_false, if_true, Bool.not_true, Bool.not_false, mokG, mokP, mokA, mokE, mokL, mokS, true_and, D.isNon, D.cn, wipeL, I2.2.1.g_answers]
  refine load_T (w := "answers") I2.2.1.dct rfl I2.2.1.b_answers (I2.1.box .answers) (nn _ _ nofun) (ns _) (I2.2.1.ne _ nofun) L.answers fun k2 M2 f2 e2 => ?_
  have I3 := key p3 _ p3n .answers _ _ _ (.dcT S.answers) I2 f2 e2 trivial
  show forL _ _ _ _ _ _ (unlk (ls .answers) M2)
  clear f2 e2
  revert I3
  generalize unlk (ls .answers) M2 = N3
  intro I3
  refine ⟨I3.2.2.2, _, rfl, ?_⟩
  simp only [wpSs, wpS, wpE, wpEs, wpT, L3.w_add, L3.w_addS, L3.w_addT, L3.w_sub, L3.w_mul, L3.w_fdiv, L3.w_mod, L3.w_pow, L3.w_shl, L3.w_iadd, L3.w_isub, L3.w_neg, L3.w_lt, L3.w_le, L3.w_gt, L3.w_ge, L3.w_eq, L3.w_ne, L3.w_in, L3.w_nin, L3.w_tb, L3.w_ti, L3.w_tt, L3.w_ix0, L3.w_ix1, L3.w_ix2, L3.w_lenT, L3.w_lenK, L3.w_int, L3.w_intB, L3.w_max, L3.w_min, L3.w_rng1, L3.w_rng2, L3.w_one, L3.w_ixK, L3.w_itS, L3.w_lenS, L3.w_many, L3.w_eqS, L3.w_neS, L3.w_isN, L3.w_isNN, L3.w_itTup, List.getElem?_cons_zero, List.getElem?_cons_succ, List.set_cons_zero, List.set_cons_succ, Option.some.injEq, exists_eq_left', decide_eq_true_eq, Bool.false_eq_true, if_false, if_true, Bool.not_true, Bool.not_false, mokG, mokP, mokA, mokE, mokL, mokS, true_and, D.isNon, D.cn, wipeL, I3.2.1.g_lent]
  refine load_T (w := "lent") I3.2.1.dct rfl I3.2.1.b_lent (I3.1.box .lent) (nn _ _ nofun) (ns _) (I3.2.1.ne _ nofun) L.lent fun k3 M3 f3 e3 => ?_
  have I4 := key p3 _ p3n .lent _ _ _ (.dcT S.lent) I3 f3 e3 trivial
  show forL _ _ _ _ _ _ (unlk (ls .lent) M3)
  clear f3 e3
  revert I4
  generalize unlk (ls .lent) M3 = N4
  intro I4
  refine ⟨I4.2.2.2, _, rfl, ?_⟩
  simp only [wpSs, wpS, wpE, wpEs, wpT, L3.w_add, L3.w_addS, L3.w_addT, L3.w_sub, L3.w_mul, L3.w_fdiv, L3.w_mod, L3.w_pow, L3.w_shl, L3.w_iadd, L3.w_isub, L3.w_neg, L3.w_lt, L3.w_le, L3.w_gt, L3.w_ge, L3.w_eq, L3.w_ne, L3.w_in, L3.w_nin, L3.w_tb, L3.w_ti, L3.w_tt, L3.w_ix0, L3.w_ix1, L3.w_ix2, L3.w_lenT, L3.w_lenK, L3.w_int, L3.w_intB, L3.w_max, L3.w_min, L3.w_rng1, L3.w_rng2, L3.w_one, L3.w_ixK, L3.w_itS, L3.w_lenS, L3.w_many, L3.w_eqS, L3.w_neS, L3.w_isN, L3.w_isNN, L3.w_itTup, List.getElem?_cons_zero, List.getElem?_cons_succ, List.set_cons_zero, List.set_cons_succ, Option.some.injEq, exists_eq_left', decide_eq_true_eq, Bool.false_eq_true, if_false, if_true, Bool.not_true, Bool.not_false, mokG, mokP, mokA, mokE, mokL, mokS, true_and, D.isNon, D.cn, wipeL, I4.2.1.g_held]
  refine load_T (w := "held") I4.2.1.dct rfl I4.2.1.b_held (I4.1.box .held) (nn _ _ nofun) (ns _) (I4.2.1.ne _ nofun) L.held fun k4 M4 f4 e4 => ?_
  have I5 := key p3 _ p3n .held _ _ _ (.dcT S.held) I4 f4 e4 trivial
  show forL _ _ _ _ _ _ (unlk (ls .held) M4)
  clear f4 e4
  revert I5
  generalize unlk (ls .held) M4 = N5
  intro I5
  refine ⟨I5.2.2.2, _, rfl, ?_⟩
  simp only [wpSs, wpS, wpE, wpEs, wpT, L3.w_add, L3.w_addS, L3.w_addT, L3.w_sub, L3.w_mul, L3.w_fdiv, L3.w_mod, L3.w_pow, L3.w_shl, L3.w_iadd, L3.w_isub, L3.w_neg, L3.w_lt, L3.w_le, L3.w_gt, L3.w_ge, L3.w_eq, L3.w_ne, L3.w_in, L3.w_nin, L3.w_tb, L3.w_ti, L3.w_tt, L3.w_ix0, L3.w_ix1, L3.w_ix2, L3.w_lenT, L3.w_lenK, L3.w_int, L3.w_intB, L3.w_max, L3.w_min, L3.w_rng1, L3.w_rng2, L3.w_one, L3.w_ixK, L3.w_itS, L3.w_lenS, L3.w_many, L3.w_eqS, L3.w_neS, L3.w_isN, L3.w_isNN, L3.w_itTup, List.getElem?_cons_zero, List.getElem?_cons_succ, List.set_cons_zero, List.set_cons_succ, Option.some.injEq, exists_eq_left', decide_eq_true_eq, Bool.false_eq_true, if_false, if_true, Bool.not_true, Bool.not_false, mokG, mokP, mokA, mokE, mokL, mokS, true_and, D.isNon, D.cn, wipeL, I5.2.1.g_known]
  refine load_T (w := "known") I5.2.1.dct rfl I5.2.1.b_known (I5.1.box .known) (nn _ _ nofun) (ns _) (I5.2.1.ne _ nofun) L.known fun k5 M5 f5 e5 => ?_
  have I6 := key p3 _ p3n .known _ _ _ (.dcT S.known) I5 f5 e5 trivial
  show forL _ _ _ _ _ _ (unlk (ls .known) M5)
  clear f5 e5
  revert I6
  generalize unlk (ls .known) M5 = N6
  intro I6
  refine ⟨I6.2.2.2, _, rfl, ?_⟩
  simp only [wpSs, wpS, wpE, wpEs, wpT, L3.w_add, L3.w_addS, L3.w_addT, L3.w_sub, L3.w_mul, L3.w_fdiv, L3.w_mod, L3.w_pow, L3.w_shl, L3.w_iadd, L3.w_isub, L3.w_neg, L3.w_lt, L3.w_le, L3.w_gt, L3.w_ge, L3.w_eq, L3.w_ne, L3.w_in, L3.w_nin, L3.w_tb, L3.w_ti, L3.w_tt, L3.w_ix0, L3.w_ix1, L3.w_ix2, L3.w_lenT, L3.w_lenK, L3.w_int, L3.w_intB, L3.w_max, L3.w_min, L3.w_rng1, L3.w_rng2, L3.w_one, L3.w_ixK, L3.w_itS, L3.w_lenS, L3.w_many, L3.w_eqS, L3.w_neS, L3.w_isN, L3.w_isNN, L3.w_itTup, List.getElem?_cons_zero, List.getElem?_cons_succ, List.set_cons_zero, List.set_cons_succ, Option.some.injEq, exists_eq_left', decide_eq_true_eq, Bool.false_eq_true, if_false, if_true, Bool.not_true, Bool.not_false, mokG, mokP, mokA, mokE, mokL, mokS, true_and, D.isNon, D.cn, wipeL, I6.2.1.g_hoped]
  refine load_T (w := "hoped") I6.2.1.dct rfl I6.2.1.b_hoped (I6.1.box .hoped) (nn _ _ nofun) (ns _) (I6.2.1.ne _ nofun) L.hoped fun k6 M6 f6 e6 => ?_
  have I7 := key p3 _ p3n .hoped _ _ _ (.dcT S.hoped) I6 f6 e6 trivial
  show forL _ _ _ _ _ _ (unlk (ls .hoped) M6)
  clear f6 e6
  revert I7
  generalize unlk (ls .hoped) M6 = N7
  intro I7
  refine ⟨I7.2.2.2, _, rfl, ?_⟩
  simp only [wpSs, wpS, wpE, wpEs, wpT, L3.w_add, L3.w_addS, L3.w_addT, L3.w_sub, L3.w_mul, L3.w_fdiv, L3.w_mod, L3.w_pow, L3.w_shl, L3.w_iadd, L3.w_isub, L3.w_neg, L3.w_lt, L3.w_le, L3.w_gt, L3.w_ge, L3.w_eq, L3.w_ne, L3.w_in, L3.w_nin, L3.w_tb, L3.w_ti, L3.w_tt, L3.w_ix0, L3.w_ix1, L3.w_ix2, L3.w_lenT, L3.w_lenK, L3.w_int, L3.w_intB, L3.w_max, L3.w_min, L3.w_rng1, L3.w_rng2, L3.w_one, L3.w_ixK, L3.w_itS, L3.w_lenS, L3.w_many, L3.w_eqS, L3.w_neS, L3.w_isN, L3.w_isNN, L3.w_itTup, List.getElem?_cons_zero, List.getElem?_cons_succ, List.set_cons_zero, List.set_cons_succ, Option.some.injEq, exists_eq_left', decide_eq_true_eq, Bool.false_eq_true, if_false, if_true, Bool.not_true, Bool.not_false, mokG, mokP, mokA, mokE, mokL, mokS, true_and, D.isNon, D.cn, wipeL, I7.2.1.g_places]
  refine load_T (w := "places") I7.2.1.dct rfl I7.2.1.b_places (I7.1.box .places) (nn _ _ nofun) (ns _) (I7.2.1.ne _ nofun) L.places fun k7 M7 f7 e7 => ?_
  have I8 := key p3 _ p3n .places _ _ _ (.dcT S.places) I7 f7 e7 trivial
  show forL _ _ _ _ _ _ (unlk (ls .places) M7)
  clear f7 e7
  revert I8
  generalize unlk (ls .places) M7 = N8
  intro I8
  refine ⟨I8.2.2.2, _, rfl, ?_⟩
  simp only [wpSs, wpS, wpE, wpEs, wpT, L3.w_add, L3.w_addS, L3.w_addT, L3.w_sub, L3.w_mul, L3.w_fdiv, L3.w_mod, L3.w_pow, L3.w_shl, L3.w_iadd, L3.w_isub, L3.w_neg, L3.w_lt, L3.w_le, L3.w_gt, L3.w_ge, L3.w_eq, L3.w_ne, L3.w_in, L3.w_nin, L3.w_tb, L3.w_ti, L3.w_tt, L3.w_ix0, L3.w_ix1, L3.w_ix2, L3.w_lenT, L3.w_lenK, L3.w_int, L3.w_intB, L3.w_max, L3.w_min, L3.w_rng1, L3.w_rng2, L3.w_one, L3.w_ixK, L3.w_itS, L3.w_lenS, L3.w_many, L3.w_eqS, L3.w_neS, L3.w_isN, L3.w_isNN, L3.w_itTup, List.getElem?_cons_zero, List.getElem?_cons_succ, List.set_cons_zero, List.set_cons_succ, Option.some.injEq, exists_eq_left', decide_eq_true_eq, Bool.false_eq_true, if_false, if_true, Bool.not_true, Bool.not_false, mokG, mokP, mokA, mokE, mokL, mokS, true_and, D.isNon, D.cn, wipeL, I8.2.1.g_arrived]
  refine load_T (w := "arrived") I8.2.1.dct rfl I8.2.1.b_arrived (I8.1.box .arrived) (nn _ _ nofun) (ns _) (I8.2.1.ne _ nofun) L.arrived fun k8 M8 f8 e8 => ?_
  have I9 := key p3 _ p3n .arrived _ _ _ (.dcT S.arrived) I8 f8 e8 trivial
  show forL _ _ _ _ _ _ (unlk (ls .arrived) M8)
  clear f8 e8
  revert I9
  generalize unlk (ls .arrived) M8 = N9
  intro I9
  refine ⟨I9.2.2.2, _, rfl, ?_⟩
  simp only [wpSs, wpS, wpE, wpEs, wpT, L3.w_add, L3.w_addS, L3.w_addT, L3.w_sub, L3.w_mul, L3.w_fdiv, L3.w_mod, L3.w_pow, L3.w_shl, L3.w_iadd, L3.w_isub, L3.w_neg, L3.w_lt, L3.w_le, L3.w_gt, L3.w_ge, L3.w_eq, L3.w_ne, L3.w_in, L3.w_nin, L3.w_tb, L3.w_ti, L3.w_tt, L3.w_ix0, L3.w_ix1, L3.w_ix2, L3.w_lenT, L3.w_lenK, L3.w_int, L3.w_intB, L3.w_max, L3.w_min, L3.w_rng1, L3.w_rng2, L3.w_one, L3.w_ixK, L3.w_itS, L3.w_lenS, L3.w_many, L3.w_eqS, L3.w_neS, L3.w_isN, L3.w_isNN, L3.w_itTup, List.getElem?_cons_zero, List.getElem?_cons_succ, List.set_cons_zero, List.set_cons_succ, Option.some.injEq, exists_eq_left', decide_eq_true_eq, Bool.false_eq_true, if_false, if_true, Bool.not_true, Bool.not_false, mokG, mokP, mokA, mokE, mokL, mokS, true_and, D.isNon, D.cn, wipeL, I9.2.1.g_pins]
  refine load_T (w := "pins") I9.2.1.dct rfl I9.2.1.b_pins (I9.1.box .pins) (nn _ _ nofun) (ns _) (I9.2.1.ne _ nofun) L.pins fun k9 M9 f9 e9 => ?_
  have I10 := key p3 _ p3n .pins _ _ _ (.dcT S.pins) I9 f9 e9 trivial
  show forL _ _ _ _ _ _ (unlk (ls .pins) M9)
  clear f9 e9
  revert I10
  generalize unlk (ls .pins) M9 = N10
  intro I10
  refine ⟨I10.2.2.2, ?_⟩
  simp only [wpSs, wpS, wpE, wpEs, wpT, L3.w_add, L3.w_addS, L3.w_addT, L3.w_sub, L3.w_mul, L3.w_fdiv, L3.w_mod, L3.w_pow, L3.w_shl, L3.w_iadd, L3.w_isub, L3.w_neg, L3.w_lt, L3.w_le, L3.w_gt, L3.w_ge, L3.w_eq, L3.w_ne, L3.w_in, L3.w_nin, L3.w_tb, L3.w_ti, L3.w_tt, L3.w_ix0, L3.w_ix1, L3.w_ix2, L3.w_lenT, L3.w_lenK, L3.w_int, L3.w_intB, L3.w_max, L3.w_min, L3.w_rng1, L3.w_rng2, L3.w_one, L3.w_ixK, L3.w_itS, L3.w_lenS, L3.w_many, L3.w_eqS, L3.w_neS, L3.w_isN, L3.w_isNN, L3.w_itTup, List.getElem?_cons_zero, List.getElem?_cons_succ, List.set_cons_zero, List.set_cons_succ, Option.some.injEq, exists_eq_left', decide_eq_true_eq, Bool.false_eq_true, if_false, if_true, Bool.not_true, Bool.not_false, mokG, mokP, mokA, mokE, mokL, mokS, true_and, D.isNon, D.cn, wipeL, I10.1.g_queue hF, I10.1.g_parked hF, I10.1.g_early hF, I10.1.g_waiting hF, id]
  refine ⟨one2 _ _, one2 _ _, one2 _ _, one2 _ _, by show 4 ≤ 2 ^ 24; decide, fun p4 h4 => ?_⟩
  have T4 := I10.1.new (o := .lst [.tup [.ref (lt .queue), .str "queue"], .tup [.ref (lt .parked), .str "parked"], .tup [.ref (lt .early), .str "early"], .tup [.ref (lt .waiting), .str "waiting"]]) h4
  simp only [wpSs, wpS, wpE, wpEs, wpT, L3.w_add, L3.w_addS, L3.w_addT, L3.w_sub, L3.w_mul, L3.w_fdiv, L3.w_mod, L3.w_pow, L3.w_shl, L3.w_iadd, L3.w_isub, L3.w_neg, L3.w_lt, L3.w_le, L3.w_gt, L3.w_ge, L3.w_eq, L3.w_ne, L3.w_in, L3.w_nin, L3.w_tb, L3.w_ti, L3.w_tt, L3.w_ix0, L3.w_ix1, L3.w_ix2, L3.w_lenT, L3.w_lenK, L3.w_int, L3.w_intB, L3.w_max, L3.w_min, L3.w_rng1, L3.w_rng2, L3.w_one, L3.w_ixK, L3.w_itS, L3.w_lenS, L3.w_many, L3.w_eqS, L3.w_neS, L3.w_isN, L3.w_isNN, L3.w_itTup, List.getElem?_cons_zero, List.getElem?_cons_succ, List.set_cons_zero, List.set_cons_succ, Option.some.injEq, exists_eq_left', decide_eq_true_eq, Bool.false_eq_true, if_false, if_true, Bool.not_true, Bool.not_false, mokG, mokP, mokA, mokE, mokL, mokS, true_and, D.isNon, D.cn, wipeL, T4.g_listeners hF, T4.g_transfers hF]
  refine ⟨one2 _ _, one2 _ _, one2 _ _, fun p5 h5 => ?_⟩
  refine (w_addL ((mset_ne (Fr.ne mset_same h5)).trans mset_same) mset_same).mpr ⟨by show 6 ≤ 2 ^ 24; decide, fun p6 h6 => ?_⟩
  refine (w_itL mset_same).mpr ?_
  have n2 : Fr No N10 _ := (Fr.new (o := .lst [.tup [.ref (lt .queue), .str "queue"], .tup [.ref (lt .parked), .str "parked"], .tup [.ref (lt .early), .str "early"], .tup [.ref (lt .waiting), .str "waiting"]]) h4).trans (Fr.new (o := .lst [.tup [.ref (lt .listeners), .str "listeners"], .tup [.ref (lt .transfers), .str "transfers"]]) h5)
  have no6 : ¬ OT t lt p6 := fun w => I10.1.has w (n2.no0 (fun w => w) h6)
  have p6n : M p6 = none := I10.2.2.1.no0 no6 (n2.no0 (fun w => w) h6)
  have f6 : Fr No N10 _ := n2.trans (Fr.new (o := .lst ([.tup [.ref (lt .queue), .str "queue"], .tup [.ref (lt .parked), .str "parked"], .tup [.ref (lt .early), .str "early"], .tup [.ref (lt .waiting), .str "waiting"]] ++ [.tup [.ref (lt .listeners), .str "listeners"], .tup [.ref (lt .transfers), .str "transfers"]])) h6)
  have g6 : _ = some (MO.lst ([.tup [.ref (lt .queue), .str "queue"], .tup [.ref (lt .parked), .str "parked"], .tup [.ref (lt .early), .str "early"], .tup [.ref (lt .waiting), .str "waiting"]] ++ [.tup [.ref (lt .listeners), .str "listeners"], .tup [.ref (lt .transfers), .str "transfers"]])) := mset_same (M := mset (mset N10 p4 (.lst [.tup [.ref (lt .queue), .str "queue"], .tup [.ref (lt .parked), .str "parked"], .tup [.ref (lt .early), .str "early"], .tup [.ref (lt .waiting), .str "waiting"]])) p5 (.lst [.tup [.ref (lt .listeners), .str "listeners"], .tup [.ref (lt .transfers), .str "transfers"]])) (a := p6)
  have J0 := And.intro (I10.1.fr f6 fun a w _ => w) (And.intro (I10.2.1.fr f6 fun a w _ => w) (And.intro (I10.2.2.1.trans f6.any) g6))
  revert J0
  generalize mset (mset (mset N10 p4 _) p5 _) p6 _ = K0
  intro J0
  refine ⟨J0.2.2.2, _, rfl, ?_⟩
  unfold b__law_load_1
  simp only [wpSs, wpS, wpE, wpEs, wpT, L3.w_add, L3.w_addS, L3.w_addT, L3.w_sub, L3.w_mul, L3.w_fdiv, L3.w_mod, L3.w_pow, L3.w_shl, L3.w_iadd, L3.w_isub, L3.w_neg, L3.w_lt, L3.w_le, L3.w_gt, L3.w_ge, L3.w_eq, L3.w_ne, L3.w_in, L3.w_nin, L3.w_tb, L3.w_ti, L3.w_tt, L3.w_ix0, L3.w_ix1, L3.w_ix2, L3.w_lenT, L3.w_lenK, L3.w_int, L3.w_intB, L3.w_max, L3.w_min, L3.w_rng1, L3.w_rng2, L3.w_one, L3.w_ixK, L3.w_itS, L3.w_lenS, L3.w_many, L3.w_eqS, L3.w_neS, L3.w_isN, L3.w_isNN, L3.w_itTup, List.getElem?_cons_zero, List.getElem?_cons_succ, List.set_cons_zero, List.set_cons_succ, Option.some.injEq, exists_eq_left', decide_eq_true_eq, Bool.false_eq_true, if_false, if_true, Bool.not_true, Bool.not_false, mokG, mokP, mokA, mokE, mokL, mokS, true_and, D.isNon, D.cn, wipeL, J0.2.1.g_queue]
  refine load_L J0.2.1.b_queue (J0.1.box .queue) (nn _ _ nofun) L.queue fun j0 M0b h0b e0b => ?_
  have J1 := key p6 _ p6n .queue _ _ _ (.lst S.queue) J0 h0b e0b trivial
  show forL _ _ _ _ _ _ M0b
  refine ⟨J1.2.2.2, _, rfl, ?_⟩
  simp only [wpSs, wpS, wpE, wpEs, wpT, L3.w_add, L3.w_addS, L3.w_addT, L3.w_sub, L3.w_mul, L3.w_fdiv, L3.w_mod, L3.w_pow, L3.w_shl, L3.w_iadd, L3.w_isub, L3.w_neg, L3.w_lt, L3.w_le, L3.w_gt, L3.w_ge, L3.w_eq, L3.w_ne, L3.w_in, L3.w_nin, L3.w_tb, L3.w_ti, L3.w_tt, L3.w_ix0, L3.w_ix1, L3.w_ix2, L3.w_lenT, L3.w_lenK, L3.w_int, L3.w_intB, L3.w_max, L3.w_min, L3.w_rng1, L3.w_rng2, L3.w_one, L3.w_ixK, L3.w_itS, L3.w_lenS, L3.w_many, L3.w_eqS, L3.w_neS, L3.w_isN, L3.w_isNN, L3.w_itTup, List.getElem?_cons_zero, List.getElem?_cons_succ, List.set_cons_zero, List.set_cons_succ, Option.some.injEq, exists_eq_left', decide_eq_true_eq, Bool.false_eq_true, if_false, if_true, Bool.not_true, Bool.not_false, mokG, mokP, mokA, mokE, mokL, mokS, true_and, D.isNon, D.cn, wipeL, J1.2.1.g_parked]
  refine load_L J1.2.1.b_parked (J1.1.box .parked) (nn _ _ nofun) L.parked fun j1 M1b h1b e1b => ?_
  have J2 := key p6 _ p6n .parked _ _ _ (.lst S.parked) J1 h1b e1b trivial
  show forL _ _ _ _ _ _ M1b
  refine ⟨J2.2.2.2, _, rfl, ?_⟩
  simp only [wpSs, wpS, wpE, wpEs, wpT, L3.w_add, L3.w_addS, L3.w_addT, L3.w_sub, L3.w_mul, L3.w_fdiv, L3.w_mod, L3.w_pow, L3.w_shl, L3.w_iadd, L3.w_isub, L3.w_neg, L3.w_lt, L3.w_le, L3.w_gt, L3.w_ge, L3.w_eq, L3.w_ne, L3.w_in, L3.w_nin, L3.w_tb, L3.w_ti, L3.w_tt, L3.w_ix0, L3.w_ix1, L3.w_ix2, L3.w_lenT, L3.w_lenK, L3.w_int, L3.w_intB, L3.w_max, L3.w_min, L3.w_rng1, L3.w_rng2, L3.w_one, L3.w_ixK, L3.w_itS, L3.w_lenS, L3.w_many, L3.w_eqS, L3.w_neS, L3.w_isN, L3.w_isNN, L3.w_itTup, List.getElem?_cons_zero, List.getElem?_cons_succ, List.set_cons_zero, List.set_cons_succ, Option.some.injEq, exists_eq_left', decide_eq_true_eq, Bool.false_eq_true, if_false, if_true, Bool.not_true, Bool.not_false, mokG, mokP, mokA, mokE, mokL, mokS, true_and, D.isNon, D.cn, wipeL, J2.2.1.g_early]
  refine load_L J2.2.1.b_early (J2.1.box .early) (nn _ _ nofun) L.early fun j2 M2b h2b e2b => ?_
  have J3 := key p6 _ p6n .early _ _ _ (.lst S.early) J2 h2b e2b trivial
  show forL _ _ _ _ _ _ M2b
  refine ⟨J3.2.2.2, _, rfl, ?_⟩
  simp only [wpSs, wpS, wpE, wpEs, wpT, L3.w_add, L3.w_addS, L3.w_addT, L3.w_sub, L3.w_mul, L3.w_fdiv, L3.w_mod, L3.w_pow, L3.w_shl, L3.w_iadd, L3.w_isub, L3.w_neg, L3.w_lt, L3.w_le, L3.w_gt, L3.w_ge, L3.w_eq, L3.w_ne, L3.w_in, L3.w_nin, L3.w_tb, L3.w_ti, L3.w_tt, L3.w_ix0, L3.w_ix1, L3.w_ix2, L3.w_lenT, L3.w_lenK, L3.w_int, L3.w_intB, L3.w_max, L3.w_min, L3.w_rng1, L3.w_rng2, L3.w_one, L3.w_ixK, L3.w_itS, L3.w_lenS, L3.w_many, L3.w_eqS, L3.w_neS, L3.w_isN, L3.w_isNN, L3.w_itTup, List.getElem?_cons_zero, List.getElem?_cons_succ, List.set_cons_zero, List.set_cons_succ, Option.some.injEq, exists_eq_left', decide_eq_true_eq, Bool.false_eq_true, if_false, if_true, Bool.not_true, Bool.not_false, mokG, mokP, mokA, mokE, mokL, mokS, true_and, D.isNon, D.cn, wipeL, J3.2.1.g_waiting]
  refine load_L J3.2.1.b_waiting (J3.1.box .waiting) (nn _ _ nofun) L.waiting fun j3 M3b h3b e3b => ?_
  have J4 := key p6 _ p6n .waiting _ _ _ (.lst S.waiting) J3 h3b e3b trivial
  show forL _ _ _ _ _ _ M3b
  refine ⟨J4.2.2.2, _, rfl, ?_⟩
  simp only [wpSs, wpS, wpE, wpEs, wpT, L3.w_add, L3.w_addS, L3.w_addT, L3.w_sub, L3.w_mul, L3.w_fdiv, L3.w_mod, L3.w_pow, L3.w_shl, L3.w_iadd, L3.w_isub, L3.w_neg, L3.w_lt, L3.w_le, L3.w_gt, L3.w_ge, L3.w_eq, L3.w_ne, L3.w_in, L3.w_nin, L3.w_tb, L3.w_ti, L3.w_tt, L3.w_ix0, L3.w_ix1, L3.w_ix2, L3.w_lenT, L3.w_lenK, L3.w_int, L3.w_intB, L3.w_max, L3.w_min, L3.w_rng1, L3.w_rng2, L3.w_one, L3.w_ixK, L3.w_itS, L3.w_lenS, L3.w_many, L3.w_eqS, L3.w_neS, L3.w_isN, L3.w_isNN, L3.w_itTup, List.getElem?_cons_zero, List.getElem?_cons_succ, List.set_cons_zero, List.set_cons_succ, Option.some.injEq, exists_eq_left', decide_eq_true_eq, Bool.false_eq_true, if_false, if_true, Bool.not_true, Bool.not_false, mokG, mokP, mokA, mokE, mokL, mokS, true_and, D.isNon, D.cn, wipeL, J4.2.1.g_listeners]
  refine load_L J4.2.1.b_listeners (J4.1.box .listeners) (nn _ _ nofun) L.listeners fun j4 M4b h4b e4b => ?_
  have J5 := key p6 _ p6n .listeners _ _ _ (.lst S.listeners) J4 h4b e4b trivial
  show forL _ _ _ _ _ _ M4b
  refine ⟨J5.2.2.2, _, rfl, ?_⟩
  simp only [wpSs, wpS, wpE, wpEs, wpT, L3.w_add, L3.w_addS, L3.w_addT, L3.w_sub, L3.w_mul, L3.w_fdiv, L3.w_mod, L3.w_pow, L3.w_shl, L3.w_iadd, L3.w_isub, L3.w_neg, L3.w_lt, L3.w_le, L3.w_gt, L3.w_ge, L3.w_eq, L3.w_ne, L3.w_in, L3.w_nin, L3.w_tb, L3.w_ti, L3.w_tt, L3.w_ix0, L3.w_ix1, L3.w_ix2, L3.w_lenT, L3.w_lenK, L3.w_int, L3.w_intB, L3.w_max, L3.w_min, L3.w_rng1, L3.w_rng2, L3.w_one, L3.w_ixK, L3.w_itS, L3.w_lenS, L3.w_many, L3.w_eqS, L3.w_neS, L3.w_isN, L3.w_isNN, L3.w_itTup, List.getElem?_cons_zero, List.getElem?_cons_succ, List.set_cons_zero, List.set_cons_succ, Option.some.injEq, exists_eq_left', decide_eq_true_eq, Bool.false_eq_true, if_false, if_true, Bool.not_true, Bool.not_false, mokG, mokP, mokA, mokE, mokL, mokS, true_and, D.isNon, D.cn, wipeL, J5.2.1.g_transfers]
  refine load_L J5.2.1.b_transfers (J5.1.box .transfers) (nn _ _ nofun) L.transfers fun j5 M5b h5b e5b => ?_
  have J6 := key p6 _ p6n .transfers _ _ _ (.lst S.transfers) J5 h5b e5b trivial
  show forL _ _ _ _ _ _ M5b
  refine ⟨J6.2.2.2, ?_⟩
  simp only [wpSs, wpS, wpE, wpEs, wpT, L3.w_add, L3.w_addS, L3.w_addT, L3.w_sub, L3.w_mul, L3.w_fdiv, L3.w_mod, L3.w_pow, L3.w_shl, L3.w_iadd, L3.w_isub, L3.w_neg, L3.w_lt, L3.w_le, L3.w_gt, L3.w_ge, L3.w_eq, L3.w_ne, L3.w_in, L3.w_nin, L3.w_tb, L3.w_ti, L3.w_tt, L3.w_ix0, L3.w_ix1, L3.w_ix2, L3.w_lenT, L3.w_lenK, L3.w_int, L3.w_intB, L3.w_max, L3.w_min, L3.w_rng1, L3.w_rng2, L3.w_one, L3.w_ixK, L3.w_itS, L3.w_lenS, L3.w_many, L3.w_eqS, L3.w_neS, L3.w_isN, L3.w_isNN, L3.w_itTup, List.getElem?_cons_zero, List.getElem?_cons_succ, List.set_cons_zero, List.set_cons_succ, Option.some.injEq, exists_eq_left', decide_eq_true_eq, Bool.false_eq_true, if_false, if_true, Bool.not_true, Bool.not_false, mokG, mokP, mokA, mokE, mokL, mokS, true_and, D.isNon, D.cn, wipeL, id]
  exact q _ J6.1 J6.2.2.1
end K25
end
section
set_option autoImplicit false
set_option linter.all false
set_option maxRecDepth 100000
set_option maxHeartbeats 4000000
namespace K25
open L3
open PySem (Addr Str PyData NestedKey)
theorem ok_Tables___init__ : Keeps P0 sp_Tables___init__ 3 b_Tables___init__ := by
  rintro ds M Q X ⟨p, v, g, rfl, h0, q⟩
  show wpSs P0 b_Tables___init__ _ _ [some (.ref p), some (.int v), some g] M
  unfold b_Tables___init__
  simp only [wpSs, wpS, wpE, wpEs, wpT, L3.w_add, L3.w_addS, L3.w_addT, L3.w_sub, L3.w_mul, L3.w_fdiv, L3.w_mod, L3.w_pow, L3.w_shl, L3.w_iadd, L3.w_isub, L3.w_neg, L3.w_lt, L3.w_le, L3.w_gt, L3.w_ge, L3.w_eq, L3.w_ne, L3.w_in, L3.w_nin, L3.w_tb, L3.w_ti, L3.w_tt, L3.w_ix0, L3.w_ix1, L3.w_ix2, L3.w_lenT, L3.w_lenK, L3.w_int, L3.w_intB, L3.w_max, L3.w_min, L3.w_rng1, L3.w_rng2, L3.w_one, L3.w_ixK, L3.w_itS, L3.w_lenS, L3.w_many, L3.w_eqS, L3.w_neS, L3.w_isN, L3.w_isNN, L3.w_itTup, List.getElem?_cons_zero, List.getElem?_cons_succ, List.set_cons_zero, List.set_cons_succ, Option.some.injEq, exists_eq_left', decide_eq_true_eq, Bool.false_eq_true, if_false, if_true, Bool.not_true, Bool.not_false, mokG, mokP, mokA, mokE, mokL, mokS, true_and, D.isNon, D.cn, wipeL]
  have A0 : Al (At p) M [] M := Al.nil fun a w => by rw [show a = p from w, h0]; exact nofun
  refine init_set (fs2 := [("vat", .int v)]) [] A0 h0 (hF _ (by decide +kernel)) rfl (by decide +kernel) rfl fun M1 A1 e1 => ?_
  refine init_set (fs2 := [("vat", .int v), ("program", g)]) ["vat"] A1 e1 (hF _ (by decide +kernel)) rfl (by decide +kernel) rfl fun M2 A2 e2 => ?_
  refine .inl ⟨rfl, .inl (init_new (P := P0) (f := "objects") (fs2 := fun a => [("vat", .int v), ("program", g), ("objects", .ref a)]) ["vat", "program"] A2 e2 (hF _ (by decide +kernel)) rfl (by decide +kernel) (fun _ => rfl) fun p1 M3 A3 e3 => ?_)⟩
  refine init_set (fs2 := [("vat", .int v), ("program", g), ("objects", .ref p1), ("made", .int 0)]) ["vat", "program", "objects"] A3 e3 (hF _ (by decide +kernel)) rfl (by decide +kernel) rfl fun M4 A4 e4 => ?_
  refine init_set (fs2 := [("vat", .int v), ("program", g), ("objects", .ref p1), ("made", .int 0), ("sent", .int 0)]) ["vat", "program", "objects", "made"] A4 e4 (hF _ (by decide +kernel)) rfl (by decide +kernel) rfl fun M5 A5 e5 => ?_
  refine init_set (fs2 := [("vat", .int v), ("program", g), ("objects", .ref p1), ("made", .int 0), ("sent", .int 0), ("asked", .int 0)]) ["vat", "program", "objects", "made", "sent"] A5 e5 (hF _ (by decide +kernel)) rfl (by decide +kernel) rfl fun M6 A6 e6 => ?_
  refine .inl ⟨rfl, .inl (init_new (P := P0) (f := "promises") (fs2 := fun a => [("vat", .int v), ("program", g), ("objects", .ref p1), ("made", .int 0), ("sent", .int 0), ("asked", .int 0), ("promises", .ref a)]) ["vat", "program", "objects", "made", "sent", "asked"] A6 e6 (hF _ (by decide +kernel)) rfl (by decide +kernel) (fun _ => rfl) fun p2 M7 A7 e7 => ?_)⟩
  refine .inl ⟨rfl, .inr (init_new (P := P0) (f := "answers") (fs2 := fun a => [("vat", .int v), ("program", g), ("objects", .ref p1), ("made", .int 0), ("sent", .int 0), ("asked", .int 0), ("promises", .ref p2), ("answers", .ref a)]) ["vat", "program", "objects", "made", "sent", "asked", "promises"] A7 e7 (hF _ (by decide +kernel)) rfl (by decide +kernel) (fun _ => rfl) fun p3 M8 A8 e8 => ?_)⟩
  refine .inl ⟨rfl, .inr (init_new (P := P0) (f := "lent") (fs2 := fun a => [("vat", .int v), ("program", g), ("objects", .ref p1), ("made", .int 0), ("sent", .int 0), ("asked", .int 0), ("promises", .ref p2), ("answers", .ref p3), ("lent", .ref a)]) ["vat", "program", "objects", "made", "sent", "asked", "promises", "answers"] A8 e8 (hF _ (by decide +kernel)) rfl (by decide +kernel) (fun _ => rfl) fun p4 M9 A9 e9 => ?_)⟩
  refine .inl ⟨rfl, .inr (init_new (P := P0) (f := "held") (fs2 := fun a => [("vat", .int v), ("program", g), ("objects", .ref p1), ("made", .int 0), ("sent", .int 0), ("asked", .int 0), ("promises", .ref p2), ("answers", .ref p3), ("lent", .ref p4), ("held", .ref a)]) ["vat", "program", "objects", "made", "sent", "asked", "promises", "answers", "lent"] A9 e9 (hF _ (by decide +kernel)) rfl (by decide +kernel) (fun _ => rfl) fun p5 M10 A10 e10 => ?_)⟩
  refine .inl ⟨rfl, .inr (init_new (P := P0) (f := "known") (fs2 := fun a => [("vat", .int v), ("program", g), ("objects", .ref p1), ("made", .int 0), ("sent", .int 0), ("asked", .int 0), ("promises", .ref p2), ("answers", .ref p3), ("lent", .ref p4), ("held", .ref p5), ("known", .ref a)]) ["vat", "program", "objects", "made", "sent", "asked", "promises", "answers", "lent", "held"] A10 e10 (hF _ (by decide +kernel)) rfl (by decide +kernel) (fun _ => rfl) fun p6 M11 A11 e11 => ?_)⟩
  refine .inl ⟨rfl, .inr (init_new (P := P0) (f := "hoped") (fs2 := fun a => [("vat", .int v), ("program", g), ("objects", .ref p1), ("made", .int 0), ("sent", .int 0), ("asked", .int 0), ("promises", .ref p2), ("answers", .ref p3), ("lent", .ref p4), ("held", .ref p5), ("known", .ref p6), ("hoped", .ref a)]) ["vat", "program", "objects", "made", "sent", "asked", "promises", "answers", "lent", "held", "known"] A11 e11 (hF _ (by decide +kernel)) rfl (by decide +kernel) (fun _ => rfl) fun p7 M12 A12 e12 => ?_)⟩
  refine .inl ⟨rfl, .inr (init_new (P := P0) (f := "places") (fs2 := fun a => [("vat", .int v), ("program", g), ("objects", .ref p1), ("made", .int 0), ("sent", .int 0), ("asked", .int 0), ("promises", .ref p2), ("answers", .ref p3), ("lent", .ref p4), ("held", .ref p5), ("known", .ref p6), ("hoped", .ref p7), ("places", .ref a)]) ["vat", "program", "objects", "made", "sent", "asked", "promises", "answers", "lent", "held", "known", "hoped"] A12 e12 (hF _ (by decide +kernel)) rfl (by decide +kernel) (fun _ => rfl) fun p8 M13 A13 e13 => ?_)⟩
  refine .inl ⟨rfl, .inr (init_new (P := P0) (f := "arrived") (fs2 := fun a => [("vat", .int v), ("program", g), ("objects", .ref p1), ("made", .int 0), ("sent", .int 0), ("asked", .int 0), ("promises", .ref p2), ("answers", .ref p3), ("lent", .ref p4), ("held", .ref p5), ("known", .ref p6), ("hoped", .ref p7), ("places", .ref p8), ("arrived", .ref a)]) ["vat", "program", "objects", "made", "sent", "asked", "promises", "answers", "lent", "held", "known", "hoped", "places"] A13 e13 (hF _ (by decide +kernel)) rfl (by decide +kernel) (fun _ => rfl) fun p9 M14 A14 e14 => ?_)⟩
  refine ⟨Nat.zero_le _, init_new (P := P0) (f := "queue") (fs2 := fun a => [("vat", .int v), ("program", g), ("objects", .ref p1), ("made", .int 0), ("sent", .int 0), ("asked", .int 0), ("promises", .ref p2), ("answers", .ref p3), ("lent", .ref p4), ("held", .ref p5), ("known", .ref p6), ("hoped", .ref p7), ("places", .ref p8), ("arrived", .ref p9), ("queue", .ref a)]) ["vat", "program", "objects", "made", "sent", "asked", "promises", "answers", "lent", "held", "known", "hoped", "places", "arrived"] A14 e14 (hF _ (by decide +kernel)) rfl (by decide +kernel) (fun _ => rfl) fun p10 M15 A15 e15 => ?_⟩
  refine ⟨Nat.zero_le _, init_new (P := P0) (f := "parked") (fs2 := fun a => [("vat", .int v), ("program", g), ("objects", .ref p1), ("made", .int 0), ("sent", .int 0), ("asked", .int 0), ("promises", .ref p2), ("answers", .ref p3), ("lent", .ref p4), ("held", .ref p5), ("known", .ref p6), ("hoped", .ref p7), ("places", .ref p8), ("arrived", .ref p9), ("queue", .ref p10), ("parked", .ref a)]) ["vat", "program", "objects", "made", "sent", "asked", "promises", "answers", "lent", "held", "known", "hoped", "places", "arrived", "queue"] A15 e15 (hF _ (by decide +kernel)) rfl (by decide +kernel) (fun _ => rfl) fun p11 M16 A16 e16 => ?_⟩
  refine ⟨Nat.zero_le _, init_new (P := P0) (f := "early") (fs2 := fun a => [("vat", .int v), ("program", g), ("objects", .ref p1), ("made", .int 0), ("sent", .int 0), ("asked", .int 0), ("promises", .ref p2), ("answers", .ref p3), ("lent", .ref p4), ("held", .ref p5), ("known", .ref p6), ("hoped", .ref p7), ("places", .ref p8), ("arrived", .ref p9), ("queue", .ref p10), ("parked", .ref p11), ("early", .ref a)]) ["vat", "program", "objects", "made", "sent", "asked", "promises", "answers", "lent", "held", "known", "hoped", "places", "arrived", "queue", "parked"] A16 e16 (hF _ (by decide +kernel)) rfl (by decide +kernel) (fun _ => rfl) fun p12 M17 A17 e17 => ?_⟩
  refine ⟨Nat.zero_le _, init_new (P := P0) (f := "waiting") (fs2 := fun a => [("vat", .int v), ("program", g), ("objects", .ref p1), ("made", .int 0), ("sent", .int 0), ("asked", .int 0), ("promises", .ref p2), ("answers", .ref p3), ("lent", .ref p4), ("held", .ref p5), ("known", .ref p6), ("hoped", .ref p7), ("places", .ref p8), ("arrived", .ref p9), ("queue", .ref p10), ("parked", .ref p11), ("early", .ref p12), ("waiting", .ref a)]) ["vat", "program", "objects", "made", "sent", "asked", "promises", "answers", "lent", "held", "known", "hoped", "places", "arrived", "queue", "parked", "early"] A17 e17 (hF _ (by decide +kernel)) rfl (by decide +kernel) (fun _ => rfl) fun p13 M18 A18 e18 => ?_⟩
  refine ⟨Nat.zero_le _, init_new (P := P0) (f := "listeners") (fs2 := fun a => [("vat", .int v), ("program", g), ("objects", .ref p1), ("made", .int 0), ("sent", .int 0), ("asked", .int 0), ("promises", .ref p2), ("answers", .ref p3), ("lent", .ref p4), ("held", .ref p5), ("known", .ref p6), ("hoped", .ref p7), ("places", .ref p8), ("arrived", .ref p9), ("queue", .ref p10), ("parked", .ref p11), ("early", .ref p12), ("waiting", .ref p13), ("listeners", .ref a)]) ["vat", "program", "objects", "made", "sent", "asked", "promises", "answers", "lent", "held", "known", "hoped", "places", "arrived", "queue", "parked", "early", "waiting"] A18 e18 (hF _ (by decide +kernel)) rfl (by decide +kernel) (fun _ => rfl) fun p14 M19 A19 e19 => ?_⟩
  refine .inl ⟨rfl, .inr (init_new (P := P0) (f := "pins") (fs2 := fun a => [("vat", .int v), ("program", g), ("objects", .ref p1), ("made", .int 0), ("sent", .int 0), ("asked", .int 0), ("promises", .ref p2), ("answers", .ref p3), ("lent", .ref p4), ("held", .ref p5), ("known", .ref p6), ("hoped", .ref p7), ("places", .ref p8), ("arrived", .ref p9), ("queue", .ref p10), ("parked", .ref p11), ("early", .ref p12), ("waiting", .ref p13), ("listeners", .ref p14), ("pins", .ref a)]) ["vat", "program", "objects", "made", "sent", "asked", "promises", "answers", "lent", "held", "known", "hoped", "places", "arrived", "queue", "parked", "early", "waiting", "listeners"] A19 e19 (hF _ (by decide +kernel)) rfl (by decide +kernel) (fun _ => rfl) fun p15 M20 A20 e20 => ?_)⟩
  refine ⟨Nat.zero_le _, init_new (P := P0) (f := "transfers") (fs2 := fun a => [("vat", .int v), ("program", g), ("objects", .ref p1), ("made", .int 0), ("sent", .int 0), ("asked", .int 0), ("promises", .ref p2), ("answers", .ref p3), ("lent", .ref p4), ("held", .ref p5), ("known", .ref p6), ("hoped", .ref p7), ("places", .ref p8), ("arrived", .ref p9), ("queue", .ref p10), ("parked", .ref p11), ("early", .ref p12), ("waiting", .ref p13), ("listeners", .ref p14), ("pins", .ref p15), ("transfers", .ref a)]) ["vat", "program", "objects", "made", "sent", "asked", "promises", "answers", "lent", "held", "known", "hoped", "places", "arrived", "queue", "parked", "early", "waiting", "listeners", "pins"] A20 e20 (hF _ (by decide +kernel)) rfl (by decide +kernel) (fun _ => rfl) fun p16 M21 A21 e21 => ?_⟩
  refine ⟨Nat.zero_le _, init_new (P := P0) (f := "out") (fs2 := fun a => [("vat", .int v), ("program", g), ("objects", .ref p1), ("made", .int 0), ("sent", .int 0), ("asked", .int 0), ("promises", .ref p2), ("answers", .ref p3), ("lent", .ref p4), ("held", .ref p5), ("known", .ref p6), ("hoped", .ref p7), ("places", .ref p8), ("arrived", .ref p9), ("queue", .ref p10), ("parked", .ref p11), ("early", .ref p12), ("waiting", .ref p13), ("listeners", .ref p14), ("pins", .ref p15), ("transfers", .ref p16), ("out", .ref a)]) ["vat", "program", "objects", "made", "sent", "asked", "promises", "answers", "lent", "held", "known", "hoped", "places", "arrived", "queue", "parked", "early", "waiting", "listeners", "pins", "transfers"] A21 e21 (hF _ (by decide +kernel)) rfl (by decide +kernel) (fun _ => rfl) fun p17 M22 A22 e22 => ?_⟩
  refine ⟨Nat.zero_le _, init_new (P := P0) (f := "log") (fs2 := fun a => [("vat", .int v), ("program", g), ("objects", .ref p1), ("made", .int 0), ("sent", .int 0), ("asked", .int 0), ("promises", .ref p2), ("answers", .ref p3), ("lent", .ref p4), ("held", .ref p5), ("known", .ref p6), ("hoped", .ref p7), ("places", .ref p8), ("arrived", .ref p9), ("queue", .ref p10), ("parked", .ref p11), ("early", .ref p12), ("waiting", .ref p13), ("listeners", .ref p14), ("pins", .ref p15), ("transfers", .ref p16), ("out", .ref p17), ("log", .ref a)]) ["vat", "program", "objects", "made", "sent", "asked", "promises", "answers", "lent", "held", "known", "hoped", "places", "arrived", "queue", "parked", "early", "waiting", "listeners", "pins", "transfers", "out"] A22 e22 (hF _ (by decide +kernel)) rfl (by decide +kernel) (fun _ => rfl) fun p18 M23 A23 e23 => ?_⟩
  refine ⟨Nat.zero_le _, init_new (P := P0) (f := "order") (fs2 := fun a => [("vat", .int v), ("program", g), ("objects", .ref p1), ("made", .int 0), ("sent", .int 0), ("asked", .int 0), ("promises", .ref p2), ("answers", .ref p3), ("lent", .ref p4), ("held", .ref p5), ("known", .ref p6), ("hoped", .ref p7), ("places", .ref p8), ("arrived", .ref p9), ("queue", .ref p10), ("parked", .ref p11), ("early", .ref p12), ("waiting", .ref p13), ("listeners", .ref p14), ("pins", .ref p15), ("transfers", .ref p16), ("out", .ref p17), ("log", .ref p18), ("order", .ref a)]) ["vat", "program", "objects", "made", "sent", "asked", "promises", "answers", "lent", "held", "known", "hoped", "places", "arrived", "queue", "parked", "early", "waiting", "listeners", "pins", "transfers", "out", "log"] A23 e23 (hF _ (by decide +kernel)) rfl (by decide +kernel) (fun _ => rfl) fun p19 M24 A24 e24 => ?_⟩
  obtain ⟨a, b⟩ := TT_of (l := [p1, p2, p3, p4, p5, p6, p7, p8, p9, p10, p11, p12, p13, p14, p15, p16, p17, p18, p19]) (v := v) (g := g) A24 rfl e24
  exact q _ _ a A24.fr b
end K25
end
section
set_option autoImplicit false
set_option linter.all false
set_option maxRecDepth 100000
set_option maxHeartbeats 4000000
namespace K25
open L3
open PySem (Addr Str PyData NestedKey)
theorem ok__law_all_far : Keeps P0 sp__law_all_far 4 b__law_all_far := by
  rintro ds M Q X ⟨p, os, rfl, hp, hl, q⟩
  show wpSs P0 b__law_all_far _ _ [some (.ref p), none, none, none] M
  unfold b__law_all_far
  simp only [wpSs, wpS, wpE, wpEs, wpT, L3.w_add, L3.w_addS, L3.w_addT, L3.w_sub, L3.w_mul, L3.w_fdiv, L3.w_mod, L3.w_pow, L3.w_shl, L3.w_iadd, L3.w_isub, L3.w_neg, L3.w_lt, L3.w_le, L3.w_gt, L3.w_ge, L3.w_eq, L3.w_ne, L3.w_in, L3.w_nin, L3.w_tb, L3.w_ti, L3.w_tt, L3.w_ix0, L3.w_ix1, L3.w_ix2, L3.w_lenT, L3.w_lenK, L3.w_int, L3.w_intB, L3.w_max, L3.w_min, L3.w_rng1, L3.w_rng2, L3.w_one, L3.w_ixK, L3.w_itS, L3.w_lenS, L3.w_many, L3.w_eqS, L3.w_neS, L3.w_isN, L3.w_isNN, L3.w_itTup, List.getElem?_cons_zero, List.getElem?_cons_succ, List.set_cons_zero, List.set_cons_succ, Option.some.injEq, exists_eq_left', decide_eq_true_eq, Bool.false_eq_true, if_false, if_true, Bool.not_true, Bool.not_false, mokG, mokP, mokA, mokE, mokL, mokS, true_and, D.isNon, D.cn, wipeL]
  refine ⟨Nat.zero_le _, fun a ha => ⟨one2 _ _, fun w hw => ?_⟩⟩
  refine (w_itL mset_same).mpr ?_
  have f0 : Fr No M (mset M a (.lst [])) := Fr.new ha
  have f1 : Fr No M (mset (mset M a (.lst [])) w (.lst [.str "object", .str "promise"])) := f0.trans (Fr.new hw)
  have na : (mset M a (.lst [])) a = some (.lst []) := mset_same
  refine forL_inv (fun i σ M' => Fr No M M' ∧ M' w = some (.lst [.str "object", .str "promise"]) ∧ ∃ (f : Addr) (t1 t2 : Option D), M f = none ∧ M' f = some (.lst (if i = 0 then [] else if i = 1 then farW true os else farD os)) ∧ σ = [some (.ref p), some (.ref f), t1, t2])
    ⟨f1, mset_same, a, none, none, ha, by rw [mset_ne (Fr.ne na hw)]; exact na, rfl⟩ ?_ ?_
  · rintro i x σ M' nx hx ⟨fr, hwM, f, t1, t2, hf, hfM, rfl⟩ hnx
    refine ⟨hwM, ?_⟩
    have hi : i < 2 := (List.getElem?_eq_some_iff.mp hx).1
    have inner : ∀ (o : Bool), x = .str (if o = true then "object" else "promise") → ∀ acc : List D, M' f = some (.lst acc) → acc.length ≤ 100 → (∀ (M2 : Mp) (f2 : Addr) (t : Option D), Fr No M M2 → M2 w = some (.lst [.str "object", .str "promise"]) → M f2 = none → M2 f2 = some (.lst (acc ++ farW o os)) → nx [some (.ref p), some (.ref f2), some x, t] M2) →
        wpSs P0 b__law_all_far_1 (fun x σ M => X x (id M)) ⟨nx, fun d M => Q d (id M), fun σ M => ∃ d, σ[1]? = some (some d) ∧ Q d (id M), nx⟩ [some (.ref p), some (.ref f), some x, t2] M' := by
      intro o hxo acc hacc hal done
      unfold b__law_all_far_1
      simp only [wpSs, wpS, wpE, wpEs, wpT, L3.w_add, L3.w_addS, L3.w_addT, L3.w_sub, L3.w_mul, L3.w_fdiv, L3.w_mod, L3.w_pow, L3.w_shl, L3.w_iadd, L3.w_isub, L3.w_neg, L3.w_lt, L3.w_le, L3.w_gt, L3.w_ge, L3.w_eq, L3.w_ne, L3.w_in, L3.w_nin, L3.w_tb, L3.w_ti, L3.w_tt, L3.w_ix0, L3.w_ix1, L3.w_ix2, L3.w_lenT, L3.w_lenK, L3.w_int, L3.w_intB, L3.w_max, L3.w_min, L3.w_rng1, L3.w_rng2, L3.w_one, L3.w_ixK, L3.w_itS, L3.w_lenS, L3.w_many, L3.w_eqS, L3.w_neS, L3.w_isN, L3.w_isNN, L3.w_itTup, List.getElem?_cons_zero, List.getElem?_cons_succ, List.set_cons_zero, List.set_cons_succ, Option.some.injEq, exists_eq_left', decide_eq_true_eq, Bool.false_eq_true, if_false, if_true, Bool.not_true, Bool.not_false, mokG, mokP, mokA, mokE, mokL, mokS, true_and, D.isNon, D.cn, wipeL]
      have pM' : M' p = some (.lst (os.map .int)) := fr.get (fun w => w) hp
      refine (w_itL pM').mpr ?_
      refine forL_inv (fun j σ M2 => Fr No M M2 ∧ M2 w = some (.lst [.str "object", .str "promise"]) ∧ ∃ (f2 : Addr) (t : Option D), M f2 = none ∧ M2 f2 = some (.lst (acc ++ farW o (os.take j))) ∧ σ = [some (.ref p), some (.ref f2), some x, t])
        ⟨fr, hwM, f, t2, hf, by simpa [farW] using hacc, rfl⟩ ?_ ?_
      · rintro j y σ M2 nx2 hy ⟨fr2, hw2, f2, t, hf2, hfM2, rfl⟩ hnx2
        refine ⟨fr2.get (fun w => w) hp, ?_⟩
        have hj : j < os.length := by have := (List.getElem?_eq_some_iff.mp hy).1; simpa using this
        have hy' : y = .int os[j] := by simpa [hj] using hy.symm
        subst hy'
        unfold b__law_all_far_0
        simp only [wpSs, wpS, wpE, wpEs, wpT, L3.w_add, L3.w_addS, L3.w_addT, L3.w_sub, L3.w_mul, L3.w_fdiv, L3.w_mod, L3.w_pow, L3.w_shl, L3.w_iadd, L3.w_isub, L3.w_neg, L3.w_lt, L3.w_le, L3.w_gt, L3.w_ge, L3.w_eq, L3.w_ne, L3.w_in, L3.w_nin, L3.w_tb, L3.w_ti, L3.w_tt, L3.w_ix0, L3.w_ix1, L3.w_ix2, L3.w_lenT, L3.w_lenK, L3.w_int, L3.w_intB, L3.w_max, L3.w_min, L3.w_rng1, L3.w_rng2, L3.w_one, L3.w_ixK, L3.w_itS, L3.w_lenS, L3.w_many, L3.w_eqS, L3.w_neS, L3.w_isN, L3.w_isNN, L3.w_itTup, List.getElem?_cons_zero, List.getElem?_cons_succ, List.set_cons_zero, List.set_cons_succ, Option.some.injEq, exists_eq_left', decide_eq_true_eq, Bool.false_eq_true, if_false, if_true, Bool.not_true, Bool.not_false, mokG, mokP, mokA, mokE, mokL, mokS, true_and, D.isNon, D.cn, wipeL]
        refine ⟨one3 _ _ _, one3 _ _ _, one2 _ _, fun c hc => ?_⟩
        have nf2 : f2 ≠ c := Fr.ne hfM2 hc
        have h2 : (mset M2 c (.lst [.tup [x, .int os[j], .int 1], .tup [x, .int os[j], .int 2]])) f2 = some (.lst (acc ++ farW o (os.take j))) := by rw [mset_ne nf2]; exact hfM2
        have hlen : (farW o (os.take j)).length ≤ 6 := by rw [farW_len, List.length_take]; omega
        refine (w_addL h2 mset_same).mpr ⟨by rw [List.length_append]; show _ + 2 ≤ _; exact sl_small _, fun e he => hnx2 _ _ ⟨?_, ?_, e, _, ?_, ?_, rfl⟩⟩
        · exact fr2.trans ((Fr.new hc).trans (Fr.new he))
        · have g : (mset M2 c (.lst [.tup [x, .int os[j], .int 1], .tup [x, .int os[j], .int 2]])) w = some (.lst [.str "object", .str "promise"]) := by rw [mset_ne (Fr.ne hw2 hc)]; exact hw2
          rw [mset_ne (Fr.ne g he)]; exact g
        · exact (fr2.trans (Fr.new hc)).no0 (fun w => w) he
        · rw [mset_same, List.append_assoc]
          have : farW o (os.take (j + 1)) = farW o (os.take j) ++ [rf o os[j] 1, rf o os[j] 2] := by
            rw [List.take_succ, List.getElem?_eq_getElem hj]
            unfold farW
            rw [List.flatMap_append]; rfl
          rw [this, hxo]; rfl
      · rintro σ M2 ⟨fr2, hw2, f2, t, hf2, hfM2, rfl⟩
        refine ⟨fr2.get (fun w => w) hp, done M2 f2 t fr2 hw2 hf2 ?_⟩
        rw [List.length_map, List.take_of_length_le (Nat.le_refl _)] at hfM2
        exact hfM2
    have hlenW : ∀ o, (farW o os).length ≤ 6 := fun o => by rw [farW_len]; omega
    match i, hi with
    | 0, _ =>
      have hx' : x = .str (if true = true then "object" else "promise") := by simpa using hx.symm
      exact inner true hx' [] hfM (Nat.zero_le _) fun M2 f2 t a1 a2 a3 a4 => hnx _ _ ⟨a1, a2, f2, _, t, a3, a4, rfl⟩
    | 1, _ =>
      have hx' : x = .str (if false = true then "object" else "promise") := by simpa using hx.symm
      exact inner false hx' (farW true os) hfM (by have := hlenW true; omega) fun M2 f2 t a1 a2 a3 a4 => hnx _ _ ⟨a1, a2, f2, _, t, a3, a4, rfl⟩
  · rintro σ M' ⟨fr, hwM, f, t1, t2, hf, hfM, rfl⟩
    exact ⟨hwM, _, rfl, q f M' hf hfM fr⟩
end K25
end
section
set_option autoImplicit false
set_option linter.all false
set_option maxRecDepth 100000
set_option maxHeartbeats 4000000
namespace K25
open L3
open PySem (Addr Str PyData NestedKey)
theorem ok__law_begin : Keeps P0 sp__law_begin 1 b__law_begin := by
  rintro ds M Q X ⟨v, rfl, q⟩
  show wpSs P0 b__law_begin _ _ [some (.int v)] M
  unfold b__law_begin
  simp only [wpSs, wpS, wpE, wpEs, wpT, L3.w_add, L3.w_addS, L3.w_addT, L3.w_sub, L3.w_mul, L3.w_fdiv, L3.w_mod, L3.w_pow, L3.w_shl, L3.w_iadd, L3.w_isub, L3.w_neg, L3.w_lt, L3.w_le, L3.w_gt, L3.w_ge, L3.w_eq, L3.w_ne, L3.w_in, L3.w_nin, L3.w_tb, L3.w_ti, L3.w_tt, L3.w_ix0, L3.w_ix1, L3.w_ix2, L3.w_lenT, L3.w_lenK, L3.w_int, L3.w_intB, L3.w_max, L3.w_min, L3.w_rng1, L3.w_rng2, L3.w_one, L3.w_ixK, L3.w_itS, L3.w_lenS, L3.w_many, L3.w_eqS, L3.w_neS, L3.w_isN, L3.w_isNN, L3.w_itTup, List.getElem?_cons_zero, List.getElem?_cons_succ, List.set_cons_zero, List.set_cons_succ, Option.some.injEq, exists_eq_left', decide_eq_true_eq, Bool.false_eq_true, if_false, if_true, Bool.not_true, Bool.not_false, mokG, mokP, mokA, mokE, mokL, mokS, true_and, D.isNon, D.cn, wipeL]
  have A0 : Al No M [] M := Al.nil fun _ w => w.elim
  refine .inl ⟨rfl, .inl fun p1 h1 => ?_⟩
  have A1 := A0.snoc (o := .dct []) h1
  refine .inl ⟨rfl, .inl fun p2 h2 => ?_⟩
  have A2 := A1.snoc (o := .dct []) h2
  refine .inl ⟨rfl, .inr fun p3 h3 => ?_⟩
  have A3 := A2.snoc (o := .dcT []) h3
  refine .inl ⟨rfl, .inr fun p4 h4 => ?_⟩
  have A4 := A3.snoc (o := .dcT []) h4
  refine .inl ⟨rfl, .inr fun p5 h5 => ?_⟩
  have A5 := A4.snoc (o := .dcT []) h5
  refine .inl ⟨rfl, .inr fun p6 h6 => ?_⟩
  have A6 := A5.snoc (o := .dcT []) h6
  refine .inl ⟨rfl, .inr fun p7 h7 => ?_⟩
  have A7 := A6.snoc (o := .dcT []) h7
  refine .inl ⟨rfl, .inr fun p8 h8 => ?_⟩
  have A8 := A7.snoc (o := .dcT []) h8
  refine .inl ⟨rfl, .inr fun p9 h9 => ?_⟩
  have A9 := A8.snoc (o := .dcT []) h9
  refine ⟨Nat.zero_le _, fun p10 h10 => ?_⟩
  have A10 := A9.snoc (o := .lst []) h10
  refine ⟨Nat.zero_le _, fun p11 h11 => ?_⟩
  have A11 := A10.snoc (o := .lst []) h11
  refine ⟨Nat.zero_le _, fun p12 h12 => ?_⟩
  have A12 := A11.snoc (o := .lst []) h12
  refine ⟨Nat.zero_le _, fun p13 h13 => ?_⟩
  have A13 := A12.snoc (o := .lst []) h13
  refine ⟨Nat.zero_le _, fun p14 h14 => ?_⟩
  have A14 := A13.snoc (o := .lst []) h14
  refine .inl ⟨rfl, .inr fun p15 h15 => ?_⟩
  have A15 := A14.snoc (o := .dcT []) h15
  refine ⟨Nat.zero_le _, fun p16 h16 => ?_⟩
  have A16 := A15.snoc (o := .lst []) h16
  refine ⟨Nat.zero_le _, fun p17 h17 => ?_⟩
  have A17 := A16.snoc (o := .lst []) h17
  refine ⟨Nat.zero_le _, fun p18 h18 => ?_⟩
  have A18 := A17.snoc (o := .lst []) h18
  refine .inr ⟨(T0 v).dct (lsOf [p1, p2, p3, p4, p5, p6, p7, p8, p9, p10, p11, p12, p13, p14, p15, p16, p17, p18]), rfl, nofun, fun s hs => ?_⟩
  obtain ⟨a, b, c⟩ := SS_of (l := [p1, p2, p3, p4, p5, p6, p7, p8, p9, p10, p11, p12, p13, p14, p15, p16, p17, p18]) (v := v) A18 rfl hs
  exact q s _ _ a b c
end K25
end
section
set_option autoImplicit false
set_option linter.all false
set_option maxRecDepth 100000
set_option maxHeartbeats 4000000
namespace K25
open L3
open PySem (Addr Str PyData NestedKey)
theorem ok__law_table : Keeps P0 sp__law_table 10 b__law_table := by
  rintro ds M Q X ⟨b, d, rfl, bx, q⟩
  show wpSs P0 b__law_table _ _ [some (.ref b), none, none, none, none, none, none, none, none, none] M
  unfold b__law_table
  simp only [wpSs, wpS, wpE, wpEs, wpT, L3.w_add, L3.w_addS, L3.w_addT, L3.w_sub, L3.w_mul, L3.w_fdiv, L3.w_mod, L3.w_pow, L3.w_shl, L3.w_iadd, L3.w_isub, L3.w_neg, L3.w_lt, L3.w_le, L3.w_gt, L3.w_ge, L3.w_eq, L3.w_ne, L3.w_in, L3.w_nin, L3.w_tb, L3.w_ti, L3.w_tt, L3.w_ix0, L3.w_ix1, L3.w_ix2, L3.w_lenT, L3.w_lenK, L3.w_int, L3.w_intB, L3.w_max, L3.w_min, L3.w_rng1, L3.w_rng2, L3.w_one, L3.w_ixK, L3.w_itS, L3.w_lenS, L3.w_many, L3.w_eqS, L3.w_neS, L3.w_isN, L3.w_isNN, L3.w_itTup, List.getElem?_cons_zero, List.getElem?_cons_succ, List.set_cons_zero, List.set_cons_succ, Option.some.injEq, exists_eq_left', decide_eq_true_eq, Bool.false_eq_true, if_false, if_true, Bool.not_true, Bool.not_false, mokG, mokP, mokA, mokE, mokL, mokS, true_and, D.isNon, D.cn, wipeL]
  refine ⟨b, d, 4, rfl, by decide, bx, fun v M1 v0 v1 bx1 f1 => ?_⟩
  refine ⟨1 + v, rfl, fun s ls M2 U f2 hs => ?_⟩
  have bx2 := bx1.no f2
  have nb : ¬ OS s ls b := fun w => bx1.has.1 (hs b w)
  have nd : ¬ OS s ls d := fun w => bx1.has.2 (hs d w)
  have sb2 : SB M2 b d s ls (T0 (1 + v)) := ⟨bx2, U, nb, nd⟩
  have hsM : ∀ a, OS s ls a → M a = none := fun a w => f1.no0 (fun e => nb (by rw [← show a = b from e]; exact w)) (hs a w)
  simp only [wpSs, wpS, wpE, wpEs, wpT, L3.w_add, L3.w_addS, L3.w_addT, L3.w_sub, L3.w_mul, L3.w_fdiv, L3.w_mod, L3.w_pow, L3.w_shl, L3.w_iadd, L3.w_isub, L3.w_neg, L3.w_lt, L3.w_le, L3.w_gt, L3.w_ge, L3.w_eq, L3.w_ne, L3.w_in, L3.w_nin, L3.w_tb, L3.w_ti, L3.w_tt, L3.w_ix0, L3.w_ix1, L3.w_ix2, L3.w_lenT, L3.w_lenK, L3.w_int, L3.w_intB, L3.w_max, L3.w_min, L3.w_rng1, L3.w_rng2, L3.w_one, L3.w_ixK, L3.w_itS, L3.w_lenS, L3.w_many, L3.w_eqS, L3.w_neS, L3.w_isN, L3.w_isNN, L3.w_itTup, List.getElem?_cons_zero, List.getElem?_cons_succ, List.set_cons_zero, List.set_cons_succ, Option.some.injEq, exists_eq_left', decide_eq_true_eq, Bool.false_eq_true, if_false, if_true, Bool.not_true, Bool.not_false, mokG, mokP, mokA, mokE, mokL, mokS, true_and, D.isNon, D.cn, wipeL]
  refine ⟨by show 4 ≤ 2 ^ 24; decide, fun p hp => ?_⟩
  have sb3 := sb2.new (o := .lst [.int 1, .int 2, .int 3, .int 4]) hp
  refine (w_itL mset_same).mpr ?_
  refine compL_pure (othF (1 + v)) mset_same ?_ (by show 0 + 4 ≤ 2 ^ 24; decide) ?_
  · intro x hx kk h
    simp only [List.mem_cons, List.not_mem_nil, or_false] at hx
    have tv : (T0 (1 + v)).vat = 1 + v := rfl
    simp only [wpSs, wpS, wpE, wpEs, wpT, L3.w_add, L3.w_addS, L3.w_addT, L3.w_sub, L3.w_mul, L3.w_fdiv, L3.w_mod, L3.w_pow, L3.w_shl, L3.w_iadd, L3.w_isub, L3.w_neg, L3.w_lt, L3.w_le, L3.w_gt, L3.w_ge, L3.w_eq, L3.w_ne, L3.w_in, L3.w_nin, L3.w_tb, L3.w_ti, L3.w_tt, L3.w_ix0, L3.w_ix1, L3.w_ix2, L3.w_lenT, L3.w_lenK, L3.w_int, L3.w_intB, L3.w_max, L3.w_min, L3.w_rng1, L3.w_rng2, L3.w_one, L3.w_ixK, L3.w_itS, L3.w_lenS, L3.w_many, L3.w_eqS, L3.w_neS, L3.w_isN, L3.w_isNN, L3.w_itTup, List.getElem?_cons_zero, List.getElem?_cons_succ, List.set_cons_zero, List.set_cons_succ, Option.some.injEq, exists_eq_left', decide_eq_true_eq, Bool.false_eq_true, if_false, if_true, Bool.not_true, Bool.not_false, mokG, mokP, mokA, mokE, mokL, mokS, true_and, D.isNon, D.cn, wipeL, sb3.ss.g_vat]
    rcases hx with rfl | rfl | rfl | rfl <;> simp only [wpSs, wpS, wpE, wpEs, wpT, L3.w_add, L3.w_addS, L3.w_addT, L3.w_sub, L3.w_mul, L3.w_fdiv, L3.w_mod, L3.w_pow, L3.w_shl, L3.w_iadd, L3.w_isub, L3.w_neg, L3.w_lt, L3.w_le, L3.w_gt, L3.w_ge, L3.w_eq, L3.w_ne, L3.w_in, L3.w_nin, L3.w_tb, L3.w_ti, L3.w_tt, L3.w_ix0, L3.w_ix1, L3.w_ix2, L3.w_lenT, L3.w_lenK, L3.w_int, L3.w_intB, L3.w_max, L3.w_min, L3.w_rng1, L3.w_rng2, L3.w_one, L3.w_ixK, L3.w_itS, L3.w_lenS, L3.w_many, L3.w_eqS, L3.w_neS, L3.w_isN, L3.w_isNN, L3.w_itTup, List.getElem?_cons_zero, List.getElem?_cons_succ, List.set_cons_zero, List.set_cons_succ, Option.some.injEq, exists_eq_left', decide_eq_true_eq, Bool.false_eq_true, if_false, if_true, Bool.not_true, Bool.not_false, mokG, mokP, mokA, mokE, mokL, mokS, true_and, D.isNon, D.cn, wipeL, sb3.ss.g_vat, othF, tv, Bool.not_eq_true', decide_eq_false_iff_not] at h ⊢ <;> split at h <;> rename_i hc <;> first | (rw [if_neg (not_not_intro hc)]; exact h) | (rw [if_pos hc]; exact h)
  rw [List.nil_append, oth_map]
  change wpNew (mset M2 p (.lst [.int 1, .int 2, .int 3, .int 4])) _ _
  intro p2 hp2
  have sb4 := sb3.new (o := .lst ((oth (1 + v)).map .int)) hp2
  have fr4 : Fr No M2 _ := (Fr.new (o := .lst [.int 1, .int 2, .int 3, .int 4]) hp).trans (Fr.new (o := .lst ((oth (1 + v)).map .int)) hp2)
  have g4 : (mset (mset M2 p (.lst [.int 1, .int 2, .int 3, .int 4])) p2 (.lst ((oth (1 + v)).map .int))) p2 = some (.lst ((oth (1 + v)).map .int)) := mset_same
  have pb : p2 ≠ b := by rintro rfl; exact sb3.bx.has.1 hp2
  have ps : ¬ OS s ls p2 := fun w => sb3.ss.has w hp2
  have fr5 : Fr (fun a => a = b ∨ OS s ls a) M _ := (f1.mono fun a e => .inl e).trans (f2.any.trans fr4.any)
  revert sb4 g4 fr5
  generalize mset (mset M2 p _) p2 _ = M4
  intro sb4 g4 fr5
  have t4 : TI M b d s ls p2 ((oth (1 + v)).map .int) M4 (T0 (1 + v)) := ⟨sb4, g4, fr5, pb, ps⟩
  refine ⟨b, d, 5, rfl, by decide, t4.sb.bx, fun tp M5 tp0 tp1 bx5 f5 => ?_⟩
  have t5 := t4.draw bx5 f5
  simp only [wpSs, wpS, wpE, wpEs, wpT, L3.w_add, L3.w_addS, L3.w_addT, L3.w_sub, L3.w_mul, L3.w_fdiv, L3.w_mod, L3.w_pow, L3.w_shl, L3.w_iadd, L3.w_isub, L3.w_neg, L3.w_lt, L3.w_le, L3.w_gt, L3.w_ge, L3.w_eq, L3.w_ne, L3.w_in, L3.w_nin, L3.w_tb, L3.w_ti, L3.w_tt, L3.w_ix0, L3.w_ix1, L3.w_ix2, L3.w_lenT, L3.w_lenK, L3.w_int, L3.w_intB, L3.w_max, L3.w_min, L3.w_rng1, L3.w_rng2, L3.w_one, L3.w_ixK, L3.w_itS, L3.w_lenS, L3.w_many, L3.w_eqS, L3.w_neS, L3.w_isN, L3.w_isNN, L3.w_itTup, List.getElem?_cons_zero, List.getElem?_cons_succ, List.set_cons_zero, List.set_cons_succ, Option.some.injEq, exists_eq_left', decide_eq_true_eq, Bool.false_eq_true, if_false, if_true, Bool.not_true, Bool.not_false, mokG, mokP, mokA, mokE, mokL, mokS, true_and, D.isNon, D.cn, wipeL]
  refine t5.sb.ss.w_top.mpr ?_
  have t6 : TI M b d s ls p2 ((oth (1 + v)).map .int) (mset M5 s (.dct (Tb.dct { T0 (1 + v) with top := 2 + tp } ls))) { T0 (1 + v) with top := 2 + tp } := by
    have fs : Fr (At s) M5 (mset M5 s (.dct (Tb.dct { T0 (1 + v) with top := 2 + tp } ls))) := Fr.set rfl
    exact ⟨⟨t5.sb.bx.fr fs (fun e => nb (.inl e)) (fun e => nd (.inl e)), t5.sb.ss.p_top, nb, nd⟩, by rw [mset_ne (fun e => ps (.inl e))]; exact t5.pl, t5.fr.trans (Fr.set (.inr (.inl rfl))), pb, ps⟩
  revert t6
  generalize mset M5 s _ = M6
  intro t6
  refine ⟨b, d, 12, rfl, by decide, t6.sb.bx, fun tu M7 tu0 tu1 bx7 f7 => ?_⟩
  have t7 := t6.draw bx7 f7
  have ol := oth_len (v := 1 + v) (by omega) (by omega)
  refine ⟨p2, oth (1 + v), rfl, t7.pl, by omega, fun fa M8 hfa g8 f8 => ?_⟩
  have t8 := t7.no f8
  have fl : (farD (oth (1 + v))).length = 12 := by rw [farD_len, ol]
  obtain ⟨u, rfl⟩ := Int.eq_ofNat_of_zero_le tu0
  have hu : u ≤ (farD (oth (1 + v))).length := by omega
  refine (w_slL g8).mpr ⟨⟨rfl, rfl⟩, fun c1 hc1 => ?_⟩
  rw [cut_lo hu]
  have t9 := t8.new (o := .lst ((farD (oth (1 + v))).drop u)) hc1
  have g9 : (mset M8 c1 (.lst ((farD (oth (1 + v))).drop u))) fa = some (.lst (farD (oth (1 + v)))) := by rw [mset_ne (Fr.ne g8 hc1)]; exact g8
  refine (w_slL g9).mpr ⟨⟨rfl, rfl⟩, fun c2 hc2 => ?_⟩
  rw [cut_hi hu]
  have t10 := t9.new (o := .lst ((farD (oth (1 + v))).take u)) hc2
  refine (w_addL ((mset_ne (Fr.ne mset_same hc2)).trans mset_same) mset_same).mpr ⟨by rw [← List.length_append, List.length_append, List.length_drop, List.length_take]; show _ ≤ 2 ^ 24; omega, fun c3 hc3 => ?_⟩
  have c3b : c3 ≠ b := by rintro rfl; exact t10.sb.bx.has.1 hc3
  have perm : ((farD (oth (1 + v))).drop u ++ (farD (oth (1 + v))).take u).Perm (farD (oth (1 + v))) := by
    have := List.perm_append_comm (l₁ := (farD (oth (1 + v))).drop u) (l₂ := (farD (oth (1 + v))).take u)
    rwa [List.take_append_drop] at this
  have t11 := t10.new (o := .lst ((farD (oth (1 + v))).drop u ++ (farD (oth (1 + v))).take u)) hc3
  have g11 := @mset_same (mset (mset M8 c1 (.lst ((farD (oth (1 + v))).drop u))) c2 (.lst ((farD (oth (1 + v))).take u))) c3 (.lst ((farD (oth (1 + v))).drop u ++ (farD (oth (1 + v))).take u))
  revert t11 g11
  generalize mset (mset (mset M8 c1 _) c2 _) c3 _ = M11
  generalize hxs : (farD (oth (1 + v))).drop u ++ (farD (oth (1 + v))).take u = xs at perm
  intro t11 g11
  refine (w_itL g11).mpr ?_
  have hv0 : 1 ≤ 1 + v := by omega
  have hv1 : 1 + v ≤ 4 := by omega
  have xnd : xs.Pairwise fun a b => a ≠ b := (perm.pairwise_iff fun h => Ne.symm h).mpr (farD_nodup hv0 hv1)
  have xmem : ∀ x ∈ xs, KF (1 + v) x := fun x hx => farD_mem (perm.mem_iff.mp hx)
  have xlen : xs.length = 12 := by rw [perm.length_eq, fl]
  have rt : ∀ r, Rg (1 + v) r → True := fun _ _ => trivial
  -- the weights that are held, what is known
  refine forL_inv (fun i σ M' => ∃ (h kn : List (D × D)) (x5 : Option D), TI M b d s ls p2 ((oth (1 + v)).map .int) M' { T0 (1 + v) with top := 2 + tp, held := h, known := kn } ∧ M' c3 = some (.lst xs) ∧ h.map (·.1) = xs.take i ∧ DOk KR (Wt 17 4) i h ∧ DOk KR (Stl (Rg (1 + v))) i kn ∧ σ = [some (.ref b), some (.ref s), some (.ref p2), some (.int u), some (.ref fa), x5, none, none, none, none])
    ⟨[], [], none, t11, g11, rfl, DOk.nil, DOk.nil, rfl⟩ ?_ ?_
  · rintro i x σ M' nx hx ⟨h, kn, x5, t, gc, hk, dh, dk, rfl⟩ hnx
    refine ⟨gc, ?_⟩
    have hi : i < xs.length := (List.getElem?_eq_some_iff.mp hx).1
    have hx' : x = xs[i] := (List.getElem?_eq_some_iff.mp hx).2.symm
    have kf : KF (1 + v) x := by rw [hx']; exact xmem _ (List.getElem_mem hi)
    have kr := kf.kr
    have hkT := kr.sm.2.2.2.2
    have nh : ¬ dhas h x = true := not_has (fun p hp => (dh.all p hp).1.sm.2.1) kr.sm.2.1 (by rw [hk, hx']; exact take_notin xnd hi)
    have tk : xs.take (i + 1) = xs.take i ++ [x] := by rw [List.take_succ, hx]; rfl
    unfold b__law_table_3
    simp only [wpSs, wpS, wpE, wpEs, wpT, L3.w_add, L3.w_addS, L3.w_addT, L3.w_sub, L3.w_mul, L3.w_fdiv, L3.w_mod, L3.w_pow, L3.w_shl, L3.w_iadd, L3.w_isub, L3.w_neg, L3.w_lt, L3.w_le, L3.w_gt, L3.w_ge, L3.w_eq, L3.w_ne, L3.w_in, L3.w_nin, L3.w_tb, L3.w_ti, L3.w_tt, L3.w_ix0, L3.w_ix1, L3.w_ix2, L3.w_lenT, L3.w_lenK, L3.w_int, L3.w_intB, L3.w_max, L3.w_min, L3.w_rng1, L3.w_rng2, L3.w_one, L3.w_ixK, L3.w_itS, L3.w_lenS, L3.w_many, L3.w_eqS, L3.w_neS, L3.w_isN, L3.w_isNN, L3.w_itTup, List.getElem?_cons_zero, List.getElem?_cons_succ, List.set_cons_zero, List.set_cons_succ, Option.some.injEq, exists_eq_left', decide_eq_true_eq, Bool.false_eq_true, if_false, if_true, Bool.not_true, Bool.not_false, mokG, mokP, mokA, mokE, mokL, mokS, true_and, D.isNon, D.cn, wipeL]
    refine ⟨b, d, rfl, t.sb.bx, fun w M1 hw bx1 f1 => ?_⟩
    have t1 := t.draw bx1 f1
    have gc1 : M1 c3 = some (.lst xs) := f1.get c3b gc
    simp only [t1.sb.ss.g_held]
    refine (w_setT t1.sb.ss.b_held).mpr ⟨⟨hkT, len_lt dh (by omega)⟩, ?_⟩
    have t2 := t1.put .held nofun (o := .dcT (dput h x (pr w))) trivial
    have gc2 : (mset M1 (ls .held) (.dcT (dput h x (pr w)))) c3 = some (.lst xs) := by
      rw [mset_ne]; exact gc1
      rintro rfl
      rw [t1.sb.ss.b_held] at gc1; cases gc1
    revert t2 gc2
    generalize mset M1 (ls .held) _ = M2
    intro t2 gc2
    have dh2 : DOk KR (Wt 17 4) (i + 1) (dput h x (pr w)) := dh.put KR.ok kr ⟨w, rfl, hw⟩
    have hk2 : (dput h x (pr w)).map (·.1) = xs.take (i + 1) := by rw [dput_keys nh, hk, tk]
    have nxt : ∀ (M3 : Mp) (kn' : List (D × D)), TI M b d s ls p2 ((oth (1 + v)).map .int) M3 { T0 (1 + v) with top := 2 + tp, held := dput h x (pr w), known := kn' } → M3 c3 = some (.lst xs) → DOk KR (Stl (Rg (1 + v))) (i + 1) kn' → nx [some (.ref b), some (.ref s), some (.ref p2), some (.int u), some (.ref fa), some x, none, none, none, none] M3 := fun M3 kn' a e k => hnx _ _ ⟨_, kn', some x, a, e, hk2, dh2, k, rfl⟩
    have dk2 : DOk KR (Stl (Rg (1 + v))) (i + 1) kn := dk.mono (fun _ h => h) (Nat.le_succ i)
    obtain ⟨o, w', n, ex, _⟩ := kf
    rw [ex]
    unfold rf
    cases o with
    | false =>
      simp only [wpSs, wpS, wpE, wpEs, wpT, L3.w_add, L3.w_addS, L3.w_addT, L3.w_sub, L3.w_mul, L3.w_fdiv, L3.w_mod, L3.w_pow, L3.w_shl, L3.w_iadd, L3.w_isub, L3.w_neg, L3.w_lt, L3.w_le, L3.w_gt, L3.w_ge, L3.w_eq, L3.w_ne, L3.w_in, L3.w_nin, L3.w_tb, L3.w_ti, L3.w_tt, L3.w_ix0, L3.w_ix1, L3.w_ix2, L3.w_lenT, L3.w_lenK, L3.w_int, L3.w_intB, L3.w_max, L3.w_min, L3.w_rng1, L3.w_rng2, L3.w_one, L3.w_ixK, L3.w_itS, L3.w_lenS, L3.w_many, L3.w_eqS, L3.w_neS, L3.w_isN, L3.w_isNN, L3.w_itTup, List.getElem?_cons_zero, List.getElem?_cons_succ, List.set_cons_zero, List.set_cons_succ, Option.some.injEq, exists_eq_left', decide_eq_true_eq, Bool.false_eq_true, if_false, if_true, Bool.not_true, Bool.not_false, mokG, mokP, mokA, mokE, mokL, mokS, true_and, D.isNon, D.cn, wipeL]
      refine ⟨b, d, 3, rfl, by decide, t2.sb.bx, fun r M3 r0 r1 bx3 f3 => ?_⟩
      have t3 := t2.draw bx3 f3
      have gc3 : M3 c3 = some (.lst xs) := f3.get c3b gc2
      simp only [wpSs, wpS, wpE, wpEs, wpT, L3.w_add, L3.w_addS, L3.w_addT, L3.w_sub, L3.w_mul, L3.w_fdiv, L3.w_mod, L3.w_pow, L3.w_shl, L3.w_iadd, L3.w_isub, L3.w_neg, L3.w_lt, L3.w_le, L3.w_gt, L3.w_ge, L3.w_eq, L3.w_ne, L3.w_in, L3.w_nin, L3.w_tb, L3.w_ti, L3.w_tt, L3.w_ix0, L3.w_ix1, L3.w_ix2, L3.w_lenT, L3.w_lenK, L3.w_int, L3.w_intB, L3.w_max, L3.w_min, L3.w_rng1, L3.w_rng2, L3.w_one, L3.w_ixK, L3.w_itS, L3.w_lenS, L3.w_many, L3.w_eqS, L3.w_neS, L3.w_isN, L3.w_isNN, L3.w_itTup, List.getElem?_cons_zero, List.getElem?_cons_succ, List.set_cons_zero, List.set_cons_succ, Option.some.injEq, exists_eq_left', decide_eq_true_eq, Bool.false_eq_true, if_false, if_true, Bool.not_true, Bool.not_false, mokG, mokP, mokA, mokE, mokL, mokS, true_and, D.isNon, D.cn, wipeL]
      split
      · refine ⟨b, d, s, ls, _, rfl, t3.sb, ⟨hv0, hv1, by show 1 ≤ 2 + tp; omega, by show 2 + tp ≤ 100; omega⟩, fun r2 M4 hr bx4 f4 => ?_⟩
        have t4 := t3.draw bx4 f4
        have gc4 : M4 c3 = some (.lst xs) := f4.get c3b gc3
        simp only [t4.sb.ss.g_known]
        refine (w_setT t4.sb.ss.b_known).mpr ⟨⟨by rw [ex] at hkT; exact hkT, len_lt dk (by omega)⟩, ?_⟩
        have t5 := t4.put .known nofun (o := .dcT (dput kn x r2)) trivial
        have gc5 : (mset M4 (ls .known) (.dcT (dput kn x r2))) c3 = some (.lst xs) := by
          rw [mset_ne]; exact gc4
          rintro rfl
          rw [t4.sb.ss.b_known] at gc4; cases gc4
        have := nxt _ _ t5 gc5 (dk.put KR.ok kr hr)
        rw [ex] at this
        exact this
      · have := nxt _ _ t3 gc3 dk2
        rw [ex] at this
        exact this
    | true =>
      simp only [wpSs, wpS, wpE, wpEs, wpT, L3.w_add, L3.w_addS, L3.w_addT, L3.w_sub, L3.w_mul, L3.w_fdiv, L3.w_mod, L3.w_pow, L3.w_shl, L3.w_iadd, L3.w_isub, L3.w_neg, L3.w_lt, L3.w_le, L3.w_gt, L3.w_ge, L3.w_eq, L3.w_ne, L3.w_in, L3.w_nin, L3.w_tb, L3.w_ti, L3.w_tt, L3.w_ix0, L3.w_ix1, L3.w_ix2, L3.w_lenT, L3.w_lenK, L3.w_int, L3.w_intB, L3.w_max, L3.w_min, L3.w_rng1, L3.w_rng2, L3.w_one, L3.w_ixK, L3.w_itS, L3.w_lenS, L3.w_many, L3.w_eqS, L3.w_neS, L3.w_isN, L3.w_isNN, L3.w_itTup, List.getElem?_cons_zero, List.getElem?_cons_succ, List.set_cons_zero, List.set_cons_succ, Option.some.injEq, exists_eq_left', decide_eq_true_eq, Bool.false_eq_true, if_false, if_true, Bool.not_true, Bool.not_false, mokG, mokP, mokA, mokE, mokL, mokS, true_and, D.isNon, D.cn, wipeL]
      rw [if_neg (by decide)]
      have := nxt _ _ t2 gc2 dk2
      rw [ex] at this
      exact this
  rintro σ M' ⟨h, kn, x5, t, gc, hk, dh, dk, rfl⟩
  refine ⟨gc, ?_⟩
  rw [List.take_of_length_le (Nat.le_refl _)] at hk
  rw [xlen] at dh dk
  have hK : (h.map (·.1)).Perm (farD (oth (1 + v))) := by rw [hk]; exact perm
  clear gc g11 t11 t10 t9 t8 t7 t6 t5 t4
  have ig : ∀ (i : Nat) (k : Int), i ≤ 6 → (0 : Int) + (i : Int) = k → k.natAbs ≤ 6 := fun i k h e => by omega
  simp only [wpSs, wpS, wpE, wpEs, wpT, L3.w_add, L3.w_addS, L3.w_addT, L3.w_sub, L3.w_mul, L3.w_fdiv, L3.w_mod, L3.w_pow, L3.w_shl, L3.w_iadd, L3.w_isub, L3.w_neg, L3.w_lt, L3.w_le, L3.w_gt, L3.w_ge, L3.w_eq, L3.w_ne, L3.w_in, L3.w_nin, L3.w_tb, L3.w_ti, L3.w_tt, L3.w_ix0, L3.w_ix1, L3.w_ix2, L3.w_lenT, L3.w_lenK, L3.w_int, L3.w_intB, L3.w_max, L3.w_min, L3.w_rng1, L3.w_rng2, L3.w_one, L3.w_ixK, L3.w_itS, L3.w_lenS, L3.w_many, L3.w_eqS, L3.w_neS, L3.w_isN, L3.w_isNN, L3.w_itTup, List.getElem?_cons_zero, List.getElem?_cons_succ, List.set_cons_zero, List.set_cons_succ, Option.some.injEq, exists_eq_left', decide_eq_true_eq, Bool.false_eq_true, if_false, if_true, Bool.not_true, Bool.not_false, mokG, mokP, mokA, mokE, mokL, mokS, true_and, D.isNon, D.cn, wipeL]
  -- the objects
  refine ⟨sm0 (by decide) (by decide), forL_inv (fun i σ M' => ∃ (ob ln : List (D × D)) (x6 : Option D), TI M b d s ls p2 ((oth (1 + v)).map .int) M' { T0 (1 + v) with top := 2 + tp, held := h, known := kn, objects := ob, lent := ln } ∧ DOk KI (Thing (Rg (1 + v))) i ob ∧ DOk KR (Wt 17 4) i ln ∧ σ = [some (.ref b), some (.ref s), some (.ref p2), some (.int u), some (.ref fa), x5, x6, none, none, none])
    ⟨[], [], none, t, DOk.nil, DOk.nil, rfl⟩ ?_ ?_⟩
  · rintro i x σ M' nx hx ⟨ob, ln, x6, t, do_, dl, rfl⟩ hnx
    obtain ⟨hi, rfl⟩ := dRange_get' hx
    have hi : i < 3 := hi
    refine ⟨trivial, ?_⟩
    unfold b__law_table_2
    simp only [wpSs, wpS, wpE, wpEs, wpT, L3.w_add, L3.w_addS, L3.w_addT, L3.w_sub, L3.w_mul, L3.w_fdiv, L3.w_mod, L3.w_pow, L3.w_shl, L3.w_iadd, L3.w_isub, L3.w_neg, L3.w_lt, L3.w_le, L3.w_gt, L3.w_ge, L3.w_eq, L3.w_ne, L3.w_in, L3.w_nin, L3.w_tb, L3.w_ti, L3.w_tt, L3.w_ix0, L3.w_ix1, L3.w_ix2, L3.w_lenT, L3.w_lenK, L3.w_int, L3.w_intB, L3.w_max, L3.w_min, L3.w_rng1, L3.w_rng2, L3.w_one, L3.w_ixK, L3.w_itS, L3.w_lenS, L3.w_many, L3.w_eqS, L3.w_neS, L3.w_isN, L3.w_isNN, L3.w_itTup, List.getElem?_cons_zero, List.getElem?_cons_succ, List.set_cons_zero, List.set_cons_succ, Option.some.injEq, exists_eq_left', decide_eq_true_eq, Bool.false_eq_true, if_false, if_true, Bool.not_true, Bool.not_false, mokG, mokP, mokA, mokE, mokL, mokS, true_and, D.isNon, D.cn, wipeL]
    refine ⟨one2 _ _, fun c hc => ?_⟩
    have t0 := t.new (o := .lst [.str "p", .str "q"]) hc
    have cb : c ≠ b := by rintro rfl; exact t.sb.bx.has.1 hc
    refine ⟨b, d, 2, rfl, by decide, t0.sb.bx, fun r M1 r0 r1 bx1 f1 => ?_⟩
    have t1 := t0.draw bx1 f1
    have gc1 : M1 c = some (.lst [.str "p", .str "q"]) := f1.get cb mset_same
    have sel : ∃ z : Str, Txt1 z ∧ atD [.str "p", .str "q"] r = some (.str z) := by
      have : r = 0 ∨ r = 1 := by omega
      rcases this with rfl | rfl
      · exact ⟨"p", Txt1.p, rfl⟩
      · exact ⟨"q", Txt1.q, rfl⟩
    obtain ⟨z, hz, ez⟩ := sel
    refine (w_ixL gc1).mpr ⟨_, ez, ?_⟩
    refine ⟨b, d, s, ls, _, rfl, t1.sb, ⟨hv0, hv1, by show 1 ≤ 2 + tp; omega, by show 2 + tp ≤ 100; omega⟩, fun a1 M2 ha1 bx2 f2 => ?_⟩
    have t2 := t1.draw bx2 f2
    refine ⟨b, d, s, ls, _, rfl, t2.sb, ⟨hv0, hv1, by show 1 ≤ 2 + tp; omega, by show 2 + tp ≤ 100; omega⟩, fun a2 M3 ha2 bx3 f3 => ⟨one2 _ _, one2 _ _, ?_⟩⟩
    have t3 := t2.draw bx3 f3
    simp only [wpSs, wpS, wpE, wpEs, wpT, L3.w_add, L3.w_addS, L3.w_addT, L3.w_sub, L3.w_mul, L3.w_fdiv, L3.w_mod, L3.w_pow, L3.w_shl, L3.w_iadd, L3.w_isub, L3.w_neg, L3.w_lt, L3.w_le, L3.w_gt, L3.w_ge, L3.w_eq, L3.w_ne, L3.w_in, L3.w_nin, L3.w_tb, L3.w_ti, L3.w_tt, L3.w_ix0, L3.w_ix1, L3.w_ix2, L3.w_lenT, L3.w_lenK, L3.w_int, L3.w_intB, L3.w_max, L3.w_min, L3.w_rng1, L3.w_rng2, L3.w_one, L3.w_ixK, L3.w_itS, L3.w_lenS, L3.w_many, L3.w_eqS, L3.w_neS, L3.w_isN, L3.w_isNN, L3.w_itTup, List.getElem?_cons_zero, List.getElem?_cons_succ, List.set_cons_zero, List.set_cons_succ, Option.some.injEq, exists_eq_left', decide_eq_true_eq, Bool.false_eq_true, if_false, if_true, Bool.not_true, Bool.not_false, mokG, mokP, mokA, mokE, mokL, mokS, true_and, D.isNon, D.cn, wipeL, t3.sb.ss.g_objects]
    refine (w_setD t3.sb.ss.b_objects).mpr ⟨⟨rfl, len_lt do_ (by omega)⟩, ?_⟩
    have t4 := t3.put .objects nofun (o := .dct (dput ob (.int (0 + (i : Int) + 101)) (.tup [.str z, .tup [a1, a2]]))) trivial
    have do2 : DOk KI (Thing (Rg (1 + v))) (i + 1) (dput ob (.int (0 + (i : Int) + 101)) (.tup [.str z, .tup [a1, a2]])) := do_.put KI.ok ⟨_, rfl, by omega⟩ ⟨z, a1, a2, rfl, hz, ha1, ha2⟩
    refine ⟨b, d, 2, rfl, by decide, t4.sb.bx, fun r2 M4 r20 r21 bx4 f4 => ?_⟩
    have t5 := t4.draw bx4 f4
    simp only [wpSs, wpS, wpE, wpEs, wpT, L3.w_add, L3.w_addS, L3.w_addT, L3.w_sub, L3.w_mul, L3.w_fdiv, L3.w_mod, L3.w_pow, L3.w_shl, L3.w_iadd, L3.w_isub, L3.w_neg, L3.w_lt, L3.w_le, L3.w_gt, L3.w_ge, L3.w_eq, L3.w_ne, L3.w_in, L3.w_nin, L3.w_tb, L3.w_ti, L3.w_tt, L3.w_ix0, L3.w_ix1, L3.w_ix2, L3.w_lenT, L3.w_lenK, L3.w_int, L3.w_intB, L3.w_max, L3.w_min, L3.w_rng1, L3.w_rng2, L3.w_one, L3.w_ixK, L3.w_itS, L3.w_lenS, L3.w_many, L3.w_eqS, L3.w_neS, L3.w_isN, L3.w_isNN, L3.w_itTup, List.getElem?_cons_zero, List.getElem?_cons_succ, List.set_cons_zero, List.set_cons_succ, Option.some.injEq, exists_eq_left', decide_eq_true_eq, Bool.false_eq_true, if_false, if_true, Bool.not_true, Bool.not_false, mokG, mokP, mokA, mokE, mokL, mokS, true_and, D.isNon, D.cn, wipeL]
    split
    · refine ⟨b, d, rfl, t5.sb.bx, fun w M5 hw bx5 f5 => ?_⟩
      have t6 := t5.draw bx5 f5
      simp only [wpSs, wpS, wpE, wpEs, wpT, L3.w_add, L3.w_addS, L3.w_addT, L3.w_sub, L3.w_mul, L3.w_fdiv, L3.w_mod, L3.w_pow, L3.w_shl, L3.w_iadd, L3.w_isub, L3.w_neg, L3.w_lt, L3.w_le, L3.w_gt, L3.w_ge, L3.w_eq, L3.w_ne, L3.w_in, L3.w_nin, L3.w_tb, L3.w_ti, L3.w_tt, L3.w_ix0, L3.w_ix1, L3.w_ix2, L3.w_lenT, L3.w_lenK, L3.w_int, L3.w_intB, L3.w_max, L3.w_min, L3.w_rng1, L3.w_rng2, L3.w_one, L3.w_ixK, L3.w_itS, L3.w_lenS, L3.w_many, L3.w_eqS, L3.w_neS, L3.w_isN, L3.w_isNN, L3.w_itTup, List.getElem?_cons_zero, List.getElem?_cons_succ, List.set_cons_zero, List.set_cons_succ, Option.some.injEq, exists_eq_left', decide_eq_true_eq, Bool.false_eq_true, if_false, if_true, Bool.not_true, Bool.not_false, mokG, mokP, mokA, mokE, mokL, mokS, true_and, D.isNon, D.cn, wipeL, t6.sb.ss.g_vat, t6.sb.ss.g_lent]
      have kr : KR (rf true (1 + v) (0 + (i : Int) + 101)) := ⟨true, _, _, rfl, by omega, by omega⟩
      refine ⟨one3 _ _ _, (w_setT t6.sb.ss.b_lent).mpr ⟨⟨kr.sm.2.2.2.2, len_lt dl (by omega)⟩, ?_⟩⟩
      have t7 := t6.put .lent nofun (o := .dcT (dput ln (rf true (1 + v) (0 + (i : Int) + 101)) (pr w))) trivial
      exact hnx _ _ ⟨_, _, _, t7, do2, dl.put KR.ok kr ⟨w, rfl, hw⟩, rfl⟩
    · exact hnx _ _ ⟨_, _, _, t5, do2, dl.mono (fun _ h => h) (Nat.le_succ i), rfl⟩
  rintro σ M' ⟨ob, ln, x6, t, do_, dl, rfl⟩
  refine ⟨trivial, ?_⟩
  rw [dRange_len] at do_ dl
  have do_ : DOk KI (Thing (Rg (1 + v))) 3 ob := do_
  have dl : DOk KR (Wt 17 4) 3 ln := dl
  have vt : (T0 (1 + v)).vat = 1 + v := rfl
  simp only [wpSs, wpS, wpE, wpEs, wpT, L3.w_add, L3.w_addS, L3.w_addT, L3.w_sub, L3.w_mul, L3.w_fdiv, L3.w_mod, L3.w_pow, L3.w_shl, L3.w_iadd, L3.w_isub, L3.w_neg, L3.w_lt, L3.w_le, L3.w_gt, L3.w_ge, L3.w_eq, L3.w_ne, L3.w_in, L3.w_nin, L3.w_tb, L3.w_ti, L3.w_tt, L3.w_ix0, L3.w_ix1, L3.w_ix2, L3.w_lenT, L3.w_lenK, L3.w_int, L3.w_intB, L3.w_max, L3.w_min, L3.w_rng1, L3.w_rng2, L3.w_one, L3.w_ixK, L3.w_itS, L3.w_lenS, L3.w_many, L3.w_eqS, L3.w_neS, L3.w_isN, L3.w_isNN, L3.w_itTup, List.getElem?_cons_zero, List.getElem?_cons_succ, List.set_cons_zero, List.set_cons_succ, Option.some.injEq, exists_eq_left', decide_eq_true_eq, Bool.false_eq_true, if_false, if_true, Bool.not_true, Bool.not_false, mokG, mokP, mokA, mokE, mokL, mokS, true_and, D.isNon, D.cn, wipeL, id, t.sb.ss.g_top]
  -- the promises
  refine ⟨sm0 (by omega) (by omega), forL_inv (fun i σ M' => ∃ (pm ln : List (D × D)) (x6 : Option D), TI M b d s ls p2 ((oth (1 + v)).map .int) M' { T0 (1 + v) with top := 2 + tp, held := h, known := kn, objects := ob, lent := ln, promises := pm } ∧ DOk KI (Rec (Rg (1 + v)) 17 4) i pm ∧ DOk KR (Wt 17 4) (3 + i) ln ∧ (0 < i → 0 < pm.length) ∧ σ = [some (.ref b), some (.ref s), some (.ref p2), some (.int u), some (.ref fa), x5, x6, none, none, none])
    ⟨[], ln, x6, t, DOk.nil, dl, fun h => absurd h (Nat.lt_irrefl _), rfl⟩ ?_ ?_⟩
  · rintro i x σ M' nx hx ⟨pm, ln, x6, t, dp, dl, hpm, rfl⟩ hnx
    obtain ⟨hi, rfl⟩ := dRange_get' hx
    have hi : i < 6 := by omega
    refine ⟨trivial, ?_⟩
    unfold b__law_table_1
    simp only [wpSs, wpS, wpE, wpEs, wpT, L3.w_add, L3.w_addS, L3.w_addT, L3.w_sub, L3.w_mul, L3.w_fdiv, L3.w_mod, L3.w_pow, L3.w_shl, L3.w_iadd, L3.w_isub, L3.w_neg, L3.w_lt, L3.w_le, L3.w_gt, L3.w_ge, L3.w_eq, L3.w_ne, L3.w_in, L3.w_nin, L3.w_tb, L3.w_ti, L3.w_tt, L3.w_ix0, L3.w_ix1, L3.w_ix2, L3.w_lenT, L3.w_lenK, L3.w_int, L3.w_intB, L3.w_max, L3.w_min, L3.w_rng1, L3.w_rng2, L3.w_one, L3.w_ixK, L3.w_itS, L3.w_lenS, L3.w_many, L3.w_eqS, L3.w_neS, L3.w_isN, L3.w_isNN, L3.w_itTup, List.getElem?_cons_zero, List.getElem?_cons_succ, List.set_cons_zero, List.set_cons_succ, Option.some.injEq, exists_eq_left', decide_eq_true_eq, Bool.false_eq_true, if_false, if_true, Bool.not_true, Bool.not_false, mokG, mokP, mokA, mokE, mokL, mokS, true_and, D.isNon, D.cn, wipeL]
    refine ⟨b, d, s, ls, _, rfl, t.sb, ⟨hv0, hv1, by show 1 ≤ 2 + tp; omega, by show 2 + tp ≤ 100; omega⟩, fun r M1 hr bx1 f1 => ?_⟩
    have t1 := t.draw bx1 f1
    simp only [wpSs, wpS, wpE, wpEs, wpT, L3.w_add, L3.w_addS, L3.w_addT, L3.w_sub, L3.w_mul, L3.w_fdiv, L3.w_mod, L3.w_pow, L3.w_shl, L3.w_iadd, L3.w_isub, L3.w_neg, L3.w_lt, L3.w_le, L3.w_gt, L3.w_ge, L3.w_eq, L3.w_ne, L3.w_in, L3.w_nin, L3.w_tb, L3.w_ti, L3.w_tt, L3.w_ix0, L3.w_ix1, L3.w_ix2, L3.w_lenT, L3.w_lenK, L3.w_int, L3.w_intB, L3.w_max, L3.w_min, L3.w_rng1, L3.w_rng2, L3.w_one, L3.w_ixK, L3.w_itS, L3.w_lenS, L3.w_many, L3.w_eqS, L3.w_neS, L3.w_isN, L3.w_isNN, L3.w_itTup, List.getElem?_cons_zero, List.getElem?_cons_succ, List.set_cons_zero, List.set_cons_succ, Option.some.injEq, exists_eq_left', decide_eq_true_eq, Bool.false_eq_true, if_false, if_true, Bool.not_true, Bool.not_false, mokG, mokP, mokA, mokE, mokL, mokS, true_and, D.isNon, D.cn, wipeL, t1.sb.ss.g_promises]
    refine (w_setD t1.sb.ss.b_promises).mpr ⟨⟨rfl, len_lt dp (by omega)⟩, ?_⟩
    have t2 := t1.put .promises nofun (o := .dct (dput pm (.int (0 + (i : Int) + 101)) r)) trivial
    have dp2 : DOk KI (Rec (Rg (1 + v)) 17 4) (i + 1) (dput pm (.int (0 + (i : Int) + 101)) r) := dp.put KI.ok ⟨_, rfl, by omega⟩ hr
    refine ⟨b, d, 3, rfl, by decide, t2.sb.bx, fun r2 M2 r20 r21 bx2 f2 => ?_⟩
    have t3 := t2.draw bx2 f2
    simp only [wpSs, wpS, wpE, wpEs, wpT, L3.w_add, L3.w_addS, L3.w_addT, L3.w_sub, L3.w_mul, L3.w_fdiv, L3.w_mod, L3.w_pow, L3.w_shl, L3.w_iadd, L3.w_isub, L3.w_neg, L3.w_lt, L3.w_le, L3.w_gt, L3.w_ge, L3.w_eq, L3.w_ne, L3.w_in, L3.w_nin, L3.w_tb, L3.w_ti, L3.w_tt, L3.w_ix0, L3.w_ix1, L3.w_ix2, L3.w_lenT, L3.w_lenK, L3.w_int, L3.w_intB, L3.w_max, L3.w_min, L3.w_rng1, L3.w_rng2, L3.w_one, L3.w_ixK, L3.w_itS, L3.w_lenS, L3.w_many, L3.w_eqS, L3.w_neS, L3.w_isN, L3.w_isNN, L3.w_itTup, List.getElem?_cons_zero, List.getElem?_cons_succ, List.set_cons_zero, List.set_cons_succ, Option.some.injEq, exists_eq_left', decide_eq_true_eq, Bool.false_eq_true, if_false, if_true, Bool.not_true, Bool.not_false, mokG, mokP, mokA, mokE, mokL, mokS, true_and, D.isNon, D.cn, wipeL]
    split
    · refine ⟨b, d, rfl, t3.sb.bx, fun w M3 hw bx3 f3 => ?_⟩
      have t4 := t3.draw bx3 f3
      simp only [wpSs, wpS, wpE, wpEs, wpT, L3.w_add, L3.w_addS, L3.w_addT, L3.w_sub, L3.w_mul, L3.w_fdiv, L3.w_mod, L3.w_pow, L3.w_shl, L3.w_iadd, L3.w_isub, L3.w_neg, L3.w_lt, L3.w_le, L3.w_gt, L3.w_ge, L3.w_eq, L3.w_ne, L3.w_in, L3.w_nin, L3.w_tb, L3.w_ti, L3.w_tt, L3.w_ix0, L3.w_ix1, L3.w_ix2, L3.w_lenT, L3.w_lenK, L3.w_int, L3.w_intB, L3.w_max, L3.w_min, L3.w_rng1, L3.w_rng2, L3.w_one, L3.w_ixK, L3.w_itS, L3.w_lenS, L3.w_many, L3.w_eqS, L3.w_neS, L3.w_isN, L3.w_isNN, L3.w_itTup, List.getElem?_cons_zero, List.getElem?_cons_succ, List.set_cons_zero, List.set_cons_succ, Option.some.injEq, exists_eq_left', decide_eq_true_eq, Bool.false_eq_true, if_false, if_true, Bool.not_true, Bool.not_false, mokG, mokP, mokA, mokE, mokL, mokS, true_and, D.isNon, D.cn, wipeL, t4.sb.ss.g_vat, t4.sb.ss.g_lent]
      have kr : KR (rf false (1 + v) (0 + (i : Int) + 101)) := ⟨false, _, _, rfl, by omega, by omega⟩
      refine ⟨one3 _ _ _, (w_setT t4.sb.ss.b_lent).mpr ⟨⟨kr.sm.2.2.2.2, len_lt dl (by omega)⟩, ?_⟩⟩
      have t5 := t4.put .lent nofun (o := .dcT (dput ln (rf false (1 + v) (0 + (i : Int) + 101)) (pr w))) trivial
      exact hnx _ _ ⟨_, _, _, t5, dp2, dl.put KR.ok kr ⟨w, rfl, hw⟩, fun _ => dput_pos, rfl⟩
    · exact hnx _ _ ⟨_, _, _, t3, dp2, dl.mono (fun _ h => h) (Nat.le_succ _), fun _ => dput_pos, rfl⟩
  rintro σ M' ⟨pm, ln, x6, t, dp, dl, hpm, rfl⟩
  refine ⟨trivial, ?_⟩
  rw [dRange_len] at dp dl hpm
  have hpm : 0 < pm.length := hpm (by show 0 < (2 + tp - 0).toNat; omega)
  have dp : DOk KI (Rec (Rg (1 + v)) 17 4) 6 pm := dp.mono (fun _ h => h) (by omega)
  have dl : DOk KR (Wt 17 4) 9 ln := dl.mono (fun _ h => h) (by omega)
  simp only [wpSs, wpS, wpE, wpEs, wpT, L3.w_add, L3.w_addS, L3.w_addT, L3.w_sub, L3.w_mul, L3.w_fdiv, L3.w_mod, L3.w_pow, L3.w_shl, L3.w_iadd, L3.w_isub, L3.w_neg, L3.w_lt, L3.w_le, L3.w_gt, L3.w_ge, L3.w_eq, L3.w_ne, L3.w_in, L3.w_nin, L3.w_tb, L3.w_ti, L3.w_tt, L3.w_ix0, L3.w_ix1, L3.w_ix2, L3.w_lenT, L3.w_lenK, L3.w_int, L3.w_intB, L3.w_max, L3.w_min, L3.w_rng1, L3.w_rng2, L3.w_one, L3.w_ixK, L3.w_itS, L3.w_lenS, L3.w_many, L3.w_eqS, L3.w_neS, L3.w_isN, L3.w_isNN, L3.w_itTup, List.getElem?_cons_zero, List.getElem?_cons_succ, List.set_cons_zero, List.set_cons_succ, Option.some.injEq, exists_eq_left', decide_eq_true_eq, Bool.false_eq_true, if_false, if_true, Bool.not_true, Bool.not_false, mokG, mokP, mokA, mokE, mokL, mokS, true_and, D.isNon, D.cn, wipeL, id]
  refine ⟨b, d, 4, rfl, by decide, t.sb.bx, fun n4 M0 n40 n41 bx0 f0 => ⟨sm0 (by omega) (by omega), ?_⟩⟩
  have t := t.draw bx0 f0
  -- the answers
  refine forL_inv (fun i σ M' => ∃ (pm an : List (D × D)) (x6 x7 x8 x9 : Option D), TI M b d s ls p2 ((oth (1 + v)).map .int) M' { T0 (1 + v) with top := 2 + tp, held := h, known := kn, objects := ob, lent := ln, promises := pm, answers := an } ∧ DOk KI (Rec (Rg (1 + v)) 17 4) (6 + i) pm ∧ DOk KP (Ans (Rg (1 + v)) 17 4) i an ∧ 0 < pm.length ∧ σ = [some (.ref b), some (.ref s), some (.ref p2), some (.int u), some (.ref fa), x5, x6, x7, x8, x9])
    ⟨pm, [], x6, none, none, none, t, dp, DOk.nil, hpm, rfl⟩ ?_ ?_
  · rintro i x σ M' nx hx ⟨pm, an, x6, x7, x8, x9, t, dp, da, hpm, rfl⟩ hnx
    obtain ⟨hi, rfl⟩ := dRange_get' hx
    have hi : i < 3 := by omega
    refine ⟨trivial, ?_⟩
    unfold b__law_table_0
    simp only [wpSs, wpS, wpE, wpEs, wpT, L3.w_add, L3.w_addS, L3.w_addT, L3.w_sub, L3.w_mul, L3.w_fdiv, L3.w_mod, L3.w_pow, L3.w_shl, L3.w_iadd, L3.w_isub, L3.w_neg, L3.w_lt, L3.w_le, L3.w_gt, L3.w_ge, L3.w_eq, L3.w_ne, L3.w_in, L3.w_nin, L3.w_tb, L3.w_ti, L3.w_tt, L3.w_ix0, L3.w_ix1, L3.w_ix2, L3.w_lenT, L3.w_lenK, L3.w_int, L3.w_intB, L3.w_max, L3.w_min, L3.w_rng1, L3.w_rng2, L3.w_one, L3.w_ixK, L3.w_itS, L3.w_lenS, L3.w_many, L3.w_eqS, L3.w_neS, L3.w_isN, L3.w_isNN, L3.w_itTup, List.getElem?_cons_zero, List.getElem?_cons_succ, List.set_cons_zero, List.set_cons_succ, Option.some.injEq, exists_eq_left', decide_eq_true_eq, Bool.false_eq_true, if_false, if_true, Bool.not_true, Bool.not_false, mokG, mokP, mokA, mokE, mokL, mokS, true_and, D.isNon, D.cn, wipeL]
    have pick : ∀ (M1 : Mp) (r : Int), TI M b d s ls p2 ((oth (1 + v)).map .int) M1 { T0 (1 + v) with top := 2 + tp, held := h, known := kn, objects := ob, lent := ln, promises := pm, answers := an } → 0 ≤ r → r < 3 → ∃ k : Int, 1 ≤ k ∧ k ≤ 4 ∧ ∀ (R : Post), R (.int k) M1 → wpIx (.ref p2) (.int r) M1 R := fun M1 r t r0 r1 => by
      obtain ⟨m, rfl⟩ := Int.eq_ofNat_of_zero_le r0
      have hm : m < (oth (1 + v)).length := by omega
      obtain ⟨_, o2, o3⟩ := oth_mem (List.getElem_mem hm)
      exact ⟨_, o2, o3, fun R q => (w_ixL t.pl).mpr ⟨_, atD_ints hm, q⟩⟩
    refine ⟨b, d, 3, rfl, by decide, t.sb.bx, fun r M1 r0 r1 bx1 f1 => ?_⟩
    have t1 := t.draw bx1 f1
    obtain ⟨k1, k10, k11, e1⟩ := pick M1 r t1 r0 r1
    refine e1 _ ⟨one2 _ _, ?_⟩
    refine ⟨b, d, 3, rfl, by decide, t1.sb.bx, fun r M2 r0 r1 bx2 f2 => ?_⟩
    have t2 := t1.draw bx2 f2
    obtain ⟨k2, k20, k21, e2⟩ := pick M2 r t2 r0 r1
    refine e2 _ ⟨one2 _ _, ?_⟩
    refine ⟨b, d, s, ls, _, rfl, t2.sb, ⟨hv0, hv1, by show 1 ≤ 2 + tp; omega, by show 2 + tp ≤ 100; omega⟩, fun rc M3 hrc bx3 f3 => ?_⟩
    have t3 := t2.draw bx3 f3
    have kp : KP (.tup [.int k2, .int (1 + (0 + (i : Int)))]) := ⟨_, _, rfl, by omega, by omega⟩
    have fin : ∀ (M8 M9 : Mp) (pm' : List (D × D)) (i' j' : Int) (w : W), TI M b d s ls p2 ((oth (1 + v)).map .int) M8 { T0 (1 + v) with top := 2 + tp, held := h, known := kn, objects := ob, lent := ln, promises := pm', answers := an } → DOk KI (Rec (Rg (1 + v)) 17 4) (6 + (i + 1)) pm' → 0 < pm'.length → i'.natAbs ≤ 1000000 → j'.natAbs ≤ 1000000 → WOk 17 4 w → BX M9 b d → Fr (At b) M8 M9 →
        [D.tup [.int i', .int j'], rc, pr w].length ≤ PySem.sizeLine ∧ wpIx (.ref s) (.str "answers") M9 fun o M10 => wpSetIx o (.tup [.int k2, .int (1 + (0 + (i : Int)))]) (.tup [.tup [.int i', .int j'], rc, pr w]) M10 (nx [some (.ref b), some (.ref s), some (.ref p2), some (.int u), some (.ref fa), x5, some (.int (0 + (i : Int))), some (.tup [.int i', .int j']), some (.tup [.int k2, .int (1 + (0 + (i : Int)))]), some rc]) := by
      intro M8 M9 pm' i' j' w t dp hpm' hi' hj' hw bx f
      have t9 := t.draw bx f
      simp only [t9.sb.ss.g_answers]
      refine ⟨one3 _ _ _, (w_setT t9.sb.ss.b_answers).mpr ⟨⟨kp.sm.2.2.2.2, len_lt da (by omega)⟩, ?_⟩⟩
      have t10 := t9.put .answers nofun (o := .dcT (dput an (.tup [.int k2, .int (1 + (0 + (i : Int)))]) (.tup [.tup [.int i', .int j'], rc, pr w]))) trivial
      exact hnx _ _ ⟨pm', _, _, _, _, _, t10, dp, da.put KP.ok kp ⟨i', j', rc, w, rfl, hi', hj', hrc, hw⟩, hpm', rfl⟩
    have dp0 : DOk KI (Rec (Rg (1 + v)) 17 4) (6 + (i + 1)) pm := dp.mono (fun _ h => h) (by omega)
    simp only [wpSs, wpS, wpE, wpEs, wpT, L3.w_add, L3.w_addS, L3.w_addT, L3.w_sub, L3.w_mul, L3.w_fdiv, L3.w_mod, L3.w_pow, L3.w_shl, L3.w_iadd, L3.w_isub, L3.w_neg, L3.w_lt, L3.w_le, L3.w_gt, L3.w_ge, L3.w_eq, L3.w_ne, L3.w_in, L3.w_nin, L3.w_tb, L3.w_ti, L3.w_tt, L3.w_ix0, L3.w_ix1, L3.w_ix2, L3.w_lenT, L3.w_lenK, L3.w_int, L3.w_intB, L3.w_max, L3.w_min, L3.w_rng1, L3.w_rng2, L3.w_one, L3.w_ixK, L3.w_itS, L3.w_lenS, L3.w_many, L3.w_eqS, L3.w_neS, L3.w_isN, L3.w_isNN, L3.w_itTup, List.getElem?_cons_zero, List.getElem?_cons_succ, List.set_cons_zero, List.set_cons_succ, Option.some.injEq, exists_eq_left', decide_eq_true_eq, Bool.false_eq_true, if_false, if_true, Bool.not_true, Bool.not_false, mokG, mokP, mokA, mokE, mokL, mokS, true_and, D.isNon, D.cn, wipeL]
    split
    · refine ⟨b, d, 3, rfl, by decide, t3.sb.bx, fun r M4 r0 r1 bx4 f4 => ?_⟩
      have t4 := t3.draw bx4 f4
      simp only [wpSs, wpS, wpE, wpEs, wpT, L3.w_add, L3.w_addS, L3.w_addT, L3.w_sub, L3.w_mul, L3.w_fdiv, L3.w_mod, L3.w_pow, L3.w_shl, L3.w_iadd, L3.w_isub, L3.w_neg, L3.w_lt, L3.w_le, L3.w_gt, L3.w_ge, L3.w_eq, L3.w_ne, L3.w_in, L3.w_nin, L3.w_tb, L3.w_ti, L3.w_tt, L3.w_ix0, L3.w_ix1, L3.w_ix2, L3.w_lenT, L3.w_lenK, L3.w_int, L3.w_intB, L3.w_max, L3.w_min, L3.w_rng1, L3.w_rng2, L3.w_one, L3.w_ixK, L3.w_itS, L3.w_lenS, L3.w_many, L3.w_eqS, L3.w_neS, L3.w_isN, L3.w_isNN, L3.w_itTup, List.getElem?_cons_zero, List.getElem?_cons_succ, List.set_cons_zero, List.set_cons_succ, Option.some.injEq, exists_eq_left', decide_eq_true_eq, Bool.false_eq_true, if_false, if_true, Bool.not_true, Bool.not_false, mokG, mokP, mokA, mokE, mokL, mokS, true_and, D.isNon, D.cn, wipeL]
      split
      · simp only [wpSs, wpS, wpE, wpEs, wpT, L3.w_add, L3.w_addS, L3.w_addT, L3.w_sub, L3.w_mul, L3.w_fdiv, L3.w_mod, L3.w_pow, L3.w_shl, L3.w_iadd, L3.w_isub, L3.w_neg, L3.w_lt, L3.w_le, L3.w_gt, L3.w_ge, L3.w_eq, L3.w_ne, L3.w_in, L3.w_nin, L3.w_tb, L3.w_ti, L3.w_tt, L3.w_ix0, L3.w_ix1, L3.w_ix2, L3.w_lenT, L3.w_lenK, L3.w_int, L3.w_intB, L3.w_max, L3.w_min, L3.w_rng1, L3.w_rng2, L3.w_one, L3.w_ixK, L3.w_itS, L3.w_lenS, L3.w_many, L3.w_eqS, L3.w_neS, L3.w_isN, L3.w_isNN, L3.w_itTup, List.getElem?_cons_zero, List.getElem?_cons_succ, List.set_cons_zero, List.set_cons_succ, Option.some.injEq, exists_eq_left', decide_eq_true_eq, Bool.false_eq_true, if_false, if_true, Bool.not_true, Bool.not_false, mokG, mokP, mokA, mokE, mokL, mokS, true_and, D.isNon, D.cn, wipeL, t4.sb.ss.g_vat]
        refine ⟨one2 _ _, ?_⟩
        refine ⟨b, d, rfl, t4.sb.bx, fun w M5 hw bx5 f5 => ⟨one4 _ _ _ _, ?_⟩⟩
        have t5 := t4.draw bx5 f5
        simp only [wpSs, wpS, wpE, wpEs, wpT, L3.w_add, L3.w_addS, L3.w_addT, L3.w_sub, L3.w_mul, L3.w_fdiv, L3.w_mod, L3.w_pow, L3.w_shl, L3.w_iadd, L3.w_isub, L3.w_neg, L3.w_lt, L3.w_le, L3.w_gt, L3.w_ge, L3.w_eq, L3.w_ne, L3.w_in, L3.w_nin, L3.w_tb, L3.w_ti, L3.w_tt, L3.w_ix0, L3.w_ix1, L3.w_ix2, L3.w_lenT, L3.w_lenK, L3.w_int, L3.w_intB, L3.w_max, L3.w_min, L3.w_rng1, L3.w_rng2, L3.w_one, L3.w_ixK, L3.w_itS, L3.w_lenS, L3.w_many, L3.w_eqS, L3.w_neS, L3.w_isN, L3.w_isNN, L3.w_itTup, List.getElem?_cons_zero, List.getElem?_cons_succ, List.set_cons_zero, List.set_cons_succ, Option.some.injEq, exists_eq_left', decide_eq_true_eq, Bool.false_eq_true, if_false, if_true, Bool.not_true, Bool.not_false, mokG, mokP, mokA, mokE, mokL, mokS, true_and, D.isNon, D.cn, wipeL, t5.sb.ss.g_promises]
        refine (w_setD t5.sb.ss.b_promises).mpr ⟨⟨rfl, len_lt dp (by omega)⟩, ?_⟩
        have t6 := t5.put .promises nofun (o := .dct (dput pm (.int (101 + (0 + (i : Int)))) (.tup [.str "forwarded", .int k2, .int (60 + (0 + (i : Int))), pr w]))) trivial
        have dp2 : DOk KI (Rec (Rg (1 + v)) 17 4) (6 + (i + 1)) (dput pm (.int (101 + (0 + (i : Int)))) (.tup [.str "forwarded", .int k2, .int (60 + (0 + (i : Int))), pr w])) := dp.put KI.ok ⟨_, rfl, by omega⟩ (.inr (.inr ⟨k2, _, w, rfl, by omega, by omega, hw⟩))
        obtain ⟨y, es, er⟩ := rec_hd hrc
        have again : ∀ (R : Mp → Prop), (∀ M6 pm', TI M b d s ls p2 ((oth (1 + v)).map .int) M6 { T0 (1 + v) with top := 2 + tp, held := h, known := kn, objects := ob, lent := ln, promises := pm', answers := an } → DOk KI (Rec (Rg (1 + v)) 17 4) (6 + (i + 1)) pm' → 0 < pm'.length → R M6) → wpIx (.ref s) (.str "promises") (mset M5 (ls .promises) (.dct (dput pm (.int (101 + (0 + (i : Int)))) (.tup [.str "forwarded", .int k2, .int (60 + (0 + (i : Int))), pr w])))) fun o M6 => wpSetIx o (.int (101 + (0 + (i : Int)))) rc M6 R := by
          intro R hR
          simp only [t6.sb.ss.g_promises]
          refine (w_setD t6.sb.ss.b_promises).mpr ⟨⟨rfl, len_lt dp2 (by omega)⟩, ?_⟩
          have t7 := t6.put .promises nofun (o := .dct (dput (dput pm (.int (101 + (0 + (i : Int)))) (.tup [.str "forwarded", .int k2, .int (60 + (0 + (i : Int))), pr w])) (.int (101 + (0 + (i : Int)))) rc)) trivial
          exact hR _ _ t7 (dp2.set KI.ok ⟨_, rfl, by omega⟩ hrc (dhas_iff.mpr ⟨_, dget_put (eqv_refl _)⟩)) dput_pos
        revert t6 again
        generalize mset M5 (ls .promises) _ = M6
        intro t6 again
        have tail : ∀ (M7 : Mp) pm', TI M b d s ls p2 ((oth (1 + v)).map .int) M7 { T0 (1 + v) with top := 2 + tp, held := h, known := kn, objects := ob, lent := ln, promises := pm', answers := an } → DOk KI (Rec (Rg (1 + v)) 17 4) (6 + (i + 1)) pm' → 0 < pm'.length → _ := fun M7 pm' t7 dp7 hp7 w M8 hw bx8 f8 => fin M7 M8 pm' (1 + v) (101 + (0 + (i : Int))) w t7 dp7 hp7 (by omega) (by omega) hw bx8 f8
        rw [er] at again tail ⊢
        simp only [wpSs, wpS, wpE, wpEs, wpT, L3.w_add, L3.w_addS, L3.w_addT, L3.w_sub, L3.w_mul, L3.w_fdiv, L3.w_mod, L3.w_pow, L3.w_shl, L3.w_iadd, L3.w_isub, L3.w_neg, L3.w_lt, L3.w_le, L3.w_gt, L3.w_ge, L3.w_eq, L3.w_ne, L3.w_in, L3.w_nin, L3.w_tb, L3.w_ti, L3.w_tt, L3.w_ix0, L3.w_ix1, L3.w_ix2, L3.w_lenT, L3.w_lenK, L3.w_int, L3.w_intB, L3.w_max, L3.w_min, L3.w_rng1, L3.w_rng2, L3.w_one, L3.w_ixK, L3.w_itS, L3.w_lenS, L3.w_many, L3.w_eqS, L3.w_neS, L3.w_isN, L3.w_isNN, L3.w_itTup, List.getElem?_cons_zero, List.getElem?_cons_succ, List.set_cons_zero, List.set_cons_succ, Option.some.injEq, exists_eq_left', decide_eq_true_eq, Bool.false_eq_true, if_false, if_true, Bool.not_true, Bool.not_false, mokG, mokP, mokA, mokE, mokL, mokS, true_and, D.isNon, D.cn, wipeL]
        split
        · exact again _ fun M7 pm' t7 dp7 hp7 => ⟨b, d, rfl, t7.sb.bx, tail M7 pm' t7 dp7 hp7⟩
        · split
          · exact again _ fun M7 pm' t7 dp7 hp7 => ⟨b, d, rfl, t7.sb.bx, tail M7 pm' t7 dp7 hp7⟩
          · exact ⟨b, d, rfl, t6.sb.bx, tail M6 _ t6 dp2 dput_pos⟩
      · exact ⟨b, d, rfl, t4.sb.bx, fun w M5 hw bx5 f5 => fin _ _ pm _ _ w t4 dp0 hpm (by omega) (by omega) hw bx5 f5⟩
    · exact ⟨b, d, rfl, t3.sb.bx, fun w M5 hw bx5 f5 => fin _ _ pm _ _ w t3 dp0 hpm (by omega) (by omega) hw bx5 f5⟩
  rintro σ M' ⟨pm, an, x6, x7, x8, x9, t, dp, da, hpm, rfl⟩
  rw [dRange_len] at dp da
  refine ⟨trivial, _, rfl, ?_⟩
  refine q s ls _ M' t.sb ⟨⟨hv0, hv1, by show 1 ≤ 2 + tp; omega, by show 2 + tp ≤ 100; omega⟩, by show 2 + tp ≤ 6; omega, do_, dp.mono (fun _ h => h) (by omega), hpm, da.mono (fun _ h => h) (by omega), dl, dh, hK, dk, rfl⟩ (Fr.hideP hsM t.fr) hsM
end K25
end
section
set_option autoImplicit false
set_option linter.all false
set_option maxRecDepth 100000
set_option maxHeartbeats 4000000
namespace K25
open L3
open PySem (Addr Str PyData NestedKey)
theorem ok__law_cell : Keeps P0 sp__law_cell 2 b__law_cell := by
  rintro ds M Q X ⟨ns, k, rfl, q⟩
  show wpSs P0 b__law_cell _ _ [some (.kl (ns.map .int)), some (.int k)] M
  unfold b__law_cell
  simp only [wpSs, wpS, wpE, wpEs, wpT, L3.w_add, L3.w_addS, L3.w_addT, L3.w_sub, L3.w_mul, L3.w_fdiv, L3.w_mod, L3.w_pow, L3.w_shl, L3.w_iadd, L3.w_isub, L3.w_neg, L3.w_lt, L3.w_le, L3.w_gt, L3.w_ge, L3.w_eq, L3.w_ne, L3.w_in, L3.w_nin, L3.w_tb, L3.w_ti, L3.w_tt, L3.w_ix0, L3.w_ix1, L3.w_ix2, L3.w_lenT, L3.w_lenK, L3.w_int, L3.w_intB, L3.w_max, L3.w_min, L3.w_rng1, L3.w_rng2, L3.w_one, L3.w_ixK, L3.w_itS, L3.w_lenS, L3.w_many, L3.w_eqS, L3.w_neS, L3.w_isN, L3.w_isNN, L3.w_itTup, List.getElem?_cons_zero, List.getElem?_cons_succ, List.set_cons_zero, List.set_cons_succ, Option.some.injEq, exists_eq_left', decide_eq_true_eq, Bool.false_eq_true, if_false, if_true, Bool.not_true, Bool.not_false, mokG, mokP, mokA, mokE, mokL, mokS, true_and, D.isNon, D.cn, wipeL]
  split
  · rename_i h
    have hk : k < ns.length := by simpa using h
    exact ⟨.int ns[k], atD_ints hk, q _⟩
  · exact q 0
end K25
end
section
set_option autoImplicit false
set_option linter.all false
set_option maxRecDepth 100000
set_option maxHeartbeats 4000000
namespace K25
open L3
open PySem (Addr Str PyData NestedKey)
theorem ok__law_digits : Keeps P0 sp__law_digits 8 b__law_digits := by
  rintro ds M Q X ⟨ns, top, rfl, htop, q⟩
  show wpSs P0 b__law_digits _ _ [some (.kl (ns.map .int)), some (.int 0), some (.int top), none, none, none, none, none] M
  unfold b__law_digits
  simp only [wpSs, wpS, wpE, wpEs, wpT, L3.w_add, L3.w_addS, L3.w_addT, L3.w_sub, L3.w_mul, L3.w_fdiv, L3.w_mod, L3.w_pow, L3.w_shl, L3.w_iadd, L3.w_isub, L3.w_neg, L3.w_lt, L3.w_le, L3.w_gt, L3.w_ge, L3.w_eq, L3.w_ne, L3.w_in, L3.w_nin, L3.w_tb, L3.w_ti, L3.w_tt, L3.w_ix0, L3.w_ix1, L3.w_ix2, L3.w_lenT, L3.w_lenK, L3.w_int, L3.w_intB, L3.w_max, L3.w_min, L3.w_rng1, L3.w_rng2, L3.w_one, L3.w_ixK, L3.w_itS, L3.w_lenS, L3.w_many, L3.w_eqS, L3.w_neS, L3.w_isN, L3.w_isNN, L3.w_itTup, List.getElem?_cons_zero, List.getElem?_cons_succ, List.set_cons_zero, List.set_cons_succ, Option.some.injEq, exists_eq_left', decide_eq_true_eq, Bool.false_eq_true, if_false, if_true, Bool.not_true, Bool.not_false, mokG, mokP, mokA, mokE, mokL, mokS, true_and, D.isNon, D.cn, wipeL]
  refine ⟨by decide, fun p hp => ?_⟩
  simp only [wpSs, wpS, wpE, wpEs, wpT, L3.w_add, L3.w_addS, L3.w_addT, L3.w_sub, L3.w_mul, L3.w_fdiv, L3.w_mod, L3.w_pow, L3.w_shl, L3.w_iadd, L3.w_isub, L3.w_neg, L3.w_lt, L3.w_le, L3.w_gt, L3.w_ge, L3.w_eq, L3.w_ne, L3.w_in, L3.w_nin, L3.w_tb, L3.w_ti, L3.w_tt, L3.w_ix0, L3.w_ix1, L3.w_ix2, L3.w_lenT, L3.w_lenK, L3.w_int, L3.w_intB, L3.w_max, L3.w_min, L3.w_rng1, L3.w_rng2, L3.w_one, L3.w_ixK, L3.w_itS, L3.w_lenS, L3.w_many, L3.w_eqS, L3.w_neS, L3.w_isN, L3.w_isNN, L3.w_itTup, List.getElem?_cons_zero, List.getElem?_cons_succ, List.set_cons_zero, List.set_cons_succ, Option.some.injEq, exists_eq_left', decide_eq_true_eq, Bool.false_eq_true, if_false, if_true, Bool.not_true, Bool.not_false, mokG, mokP, mokA, mokE, mokL, mokS, true_and, D.isNon, D.cn, wipeL]
  refine ⟨⟨sm0 (by decide) (by decide), sm0 (by omega) (by omega)⟩, forL_inv (fun i σ M' => Fr (At p) M M' ∧ ∃ (ys : List Int) (a b c e : Option D), M' p = some (.lst (ys.map .int)) ∧ ys.length ≤ 60 * i ∧ σ = [some (.kl (ns.map .int)), some (.int 0), some (.int top), some (.ref p), a, b, c, e])
    ⟨Fr.set rfl, [], none, none, none, none, mset_same, Nat.le_refl _, rfl⟩ ?_ ?_⟩
  · rintro i x σ M' nx hx ⟨bt, ys, a, b, c, e, hM, hl, rfl⟩ hnx
    obtain ⟨hi, rfl⟩ := dRange_get' hx
    have hi : i < 100 := by omega
    refine ⟨trivial, ?_⟩
    unfold b__law_digits_2
    simp only [wpSs, wpS, wpE, wpEs, wpT, L3.w_add, L3.w_addS, L3.w_addT, L3.w_sub, L3.w_mul, L3.w_fdiv, L3.w_mod, L3.w_pow, L3.w_shl, L3.w_iadd, L3.w_isub, L3.w_neg, L3.w_lt, L3.w_le, L3.w_gt, L3.w_ge, L3.w_eq, L3.w_ne, L3.w_in, L3.w_nin, L3.w_tb, L3.w_ti, L3.w_tt, L3.w_ix0, L3.w_ix1, L3.w_ix2, L3.w_lenT, L3.w_lenK, L3.w_int, L3.w_intB, L3.w_max, L3.w_min, L3.w_rng1, L3.w_rng2, L3.w_one, L3.w_ixK, L3.w_itS, L3.w_lenS, L3.w_many, L3.w_eqS, L3.w_neS, L3.w_isN, L3.w_isNN, L3.w_itTup, List.getElem?_cons_zero, List.getElem?_cons_succ, List.set_cons_zero, List.set_cons_succ, Option.some.injEq, exists_eq_left', decide_eq_true_eq, Bool.false_eq_true, if_false, if_true, Bool.not_true, Bool.not_false, mokG, mokP, mokA, mokE, mokL, mokS, true_and, D.isNon, D.cn, wipeL]
    refine ⟨ns, i, by simp, fun n => ?_⟩
    have rest : ∀ n : Int, wpSs P0 (.cons (.ite (.val (.cmp .ge (.var 5) (.bin .pow (.int 10) (.int 18)))) (.cons (.for (.one 6) .range (.cons (.int 60) .nil) b__law_digits_0) .nil) (.cons (.set (.one 7) (.bin .mod (.blt .int (.cons (.bin .add (.bin .add (.bin .mul (.var 5) (.int 48271)) (.bin .mul (.var 4) (.int 69621))) (.int 11)) .nil)) (.int 2147483647))) (.cons (.for (.one 6) .range (.cons (.int 12) .nil) b__law_digits_1) .nil))) .nil) (fun x σ M => X x (id M))
        ⟨nx, fun d M => Q d (id M), fun σ M => wpSs P0 (.cons (.ret (.var 3)) .nil) (fun x _ M => X x M) ⟨fun _ M => Q .non M, Q, fun _ _ => False, fun _ _ => False⟩ σ (id M), nx⟩ [some (.kl (ns.map .int)), some (.int 0), some (.int top), some (.ref p), some (.int (0 + (i : Int))), some (.int n), c, e] M' := fun n => by
      simp only [wpSs, wpS, wpE, wpEs, wpT, L3.w_add, L3.w_addS, L3.w_addT, L3.w_sub, L3.w_mul, L3.w_fdiv, L3.w_mod, L3.w_pow, L3.w_shl, L3.w_iadd, L3.w_isub, L3.w_neg, L3.w_lt, L3.w_le, L3.w_gt, L3.w_ge, L3.w_eq, L3.w_ne, L3.w_in, L3.w_nin, L3.w_tb, L3.w_ti, L3.w_tt, L3.w_ix0, L3.w_ix1, L3.w_ix2, L3.w_lenT, L3.w_lenK, L3.w_int, L3.w_intB, L3.w_max, L3.w_min, L3.w_rng1, L3.w_rng2, L3.w_one, L3.w_ixK, L3.w_itS, L3.w_lenS, L3.w_many, L3.w_eqS, L3.w_neS, L3.w_isN, L3.w_isNN, L3.w_itTup, List.getElem?_cons_zero, List.getElem?_cons_succ, List.set_cons_zero, List.set_cons_succ, Option.some.injEq, exists_eq_left', decide_eq_true_eq, Bool.false_eq_true, if_false, if_true, Bool.not_true, Bool.not_false, mokG, mokP, mokA, mokE, mokL, mokS, true_and, D.isNon, D.cn, wipeL]
      refine ⟨⟨by decide, by decide, by decide⟩, ?_⟩
      split
      · refine ⟨sm0 (by decide) (by decide), forL_inv (fun j σ M' => Fr (At p) M M' ∧ ∃ (ys : List Int) (n : Int) (c : Option D), M' p = some (.lst (ys.map .int)) ∧ ys.length ≤ 60 * i + j ∧ σ = [some (.kl (ns.map .int)), some (.int 0), some (.int top), some (.ref p), some (.int (0 + (i : Int))), some (.int n), c, e]) ⟨bt, ys, n, c, hM, hl, rfl⟩ ?_ ?_⟩
        · rintro j x σ M' nx2 hx2 ⟨bt, ys, n, c, hM, hl, rfl⟩ hnx2
          obtain ⟨hj, rfl⟩ := dRange_get' hx2
          have hj : j < 60 := hj
          refine ⟨trivial, ?_⟩
          unfold b__law_digits_0
          simp only [wpSs, wpS, wpE, wpEs, wpT, L3.w_add, L3.w_addS, L3.w_addT, L3.w_sub, L3.w_mul, L3.w_fdiv, L3.w_mod, L3.w_pow, L3.w_shl, L3.w_iadd, L3.w_isub, L3.w_neg, L3.w_lt, L3.w_le, L3.w_gt, L3.w_ge, L3.w_eq, L3.w_ne, L3.w_in, L3.w_nin, L3.w_tb, L3.w_ti, L3.w_tt, L3.w_ix0, L3.w_ix1, L3.w_ix2, L3.w_lenT, L3.w_lenK, L3.w_int, L3.w_intB, L3.w_max, L3.w_min, L3.w_rng1, L3.w_rng2, L3.w_one, L3.w_ixK, L3.w_itS, L3.w_lenS, L3.w_many, L3.w_eqS, L3.w_neS, L3.w_isN, L3.w_isNN, L3.w_itTup, List.getElem?_cons_zero, List.getElem?_cons_succ, List.set_cons_zero, List.set_cons_succ, Option.some.injEq, exists_eq_left', decide_eq_true_eq, Bool.false_eq_true, if_false, if_true, Bool.not_true, Bool.not_false, mokG, mokP, mokA, mokE, mokL, mokS, true_and, D.isNon, D.cn, wipeL]
          split
          · refine ⟨by rw [w_rcvL hM]; rfl, by decide, (w_app hM).mpr ⟨by rw [List.length_map]; show _ < 2 ^ 24; omega, ⟨by decide, by decide⟩, hnx2 _ _ ⟨bt.trans (Fr.set rfl), ys ++ [n % 1000], n / 1000, _, by rw [mset_same, ints_app], by rw [List.length_append]; show ys.length + 1 ≤ _; omega, rfl⟩⟩⟩
          · exact hnx2 _ _ ⟨bt, ys, n, _, hM, by omega, rfl⟩
        · rintro σ M' ⟨bt, ys, n, c, hM, hl, rfl⟩
          rw [dRange_len] at hl
          exact ⟨trivial, hnx _ _ ⟨bt, ys, _, _, _, _, hM, by omega, rfl⟩⟩
      · refine ⟨mulK ⟨by decide, by decide⟩, mulK ⟨by decide, by decide⟩, by decide, sm0 (by decide) (by decide), forL_inv (fun j σ M' => Fr (At p) M M' ∧ ∃ (ys : List Int) (z : Int) (c : Option D), M' p = some (.lst (ys.map .int)) ∧ ys.length ≤ 60 * i + j ∧ σ = [some (.kl (ns.map .int)), some (.int 0), some (.int top), some (.ref p), some (.int (0 + (i : Int))), some (.int n), c, some (.int z)]) ⟨bt, ys, _, c, hM, hl, rfl⟩ ?_ ?_⟩
        · rintro j x σ M' nx2 hx2 ⟨bt, ys, z, c, hM, hl, rfl⟩ hnx2
          obtain ⟨hj, rfl⟩ := dRange_get' hx2
          have hj : j < 12 := hj
          refine ⟨trivial, ?_⟩
          unfold b__law_digits_1
          simp only [wpSs, wpS, wpE, wpEs, wpT, L3.w_add, L3.w_addS, L3.w_addT, L3.w_sub, L3.w_mul, L3.w_fdiv, L3.w_mod, L3.w_pow, L3.w_shl, L3.w_iadd, L3.w_isub, L3.w_neg, L3.w_lt, L3.w_le, L3.w_gt, L3.w_ge, L3.w_eq, L3.w_ne, L3.w_in, L3.w_nin, L3.w_tb, L3.w_ti, L3.w_tt, L3.w_ix0, L3.w_ix1, L3.w_ix2, L3.w_lenT, L3.w_lenK, L3.w_int, L3.w_intB, L3.w_max, L3.w_min, L3.w_rng1, L3.w_rng2, L3.w_one, L3.w_ixK, L3.w_itS, L3.w_lenS, L3.w_many, L3.w_eqS, L3.w_neS, L3.w_isN, L3.w_isNN, L3.w_itTup, List.getElem?_cons_zero, List.getElem?_cons_succ, List.set_cons_zero, List.set_cons_succ, Option.some.injEq, exists_eq_left', decide_eq_true_eq, Bool.false_eq_true, if_false, if_true, Bool.not_true, Bool.not_false, mokG, mokP, mokA, mokE, mokL, mokS, true_and, D.isNon, D.cn, wipeL]
          refine ⟨mulK ⟨by decide, by decide⟩, .inl ⟨by decide, by decide⟩, by decide, by rw [w_rcvL hM]; rfl, ⟨by decide, by decide⟩, by decide, (w_app hM).mpr ⟨by rw [List.length_map]; show _ < 2 ^ 24; omega, hnx2 _ _ ⟨bt.trans (Fr.set rfl), ys ++ [_], _, _, by rw [mset_same, ints_app], by rw [List.length_append]; show ys.length + 1 ≤ _; omega, rfl⟩⟩⟩
        · rintro σ M' ⟨bt, ys, z, c, hM, hl, rfl⟩
          rw [dRange_len] at hl
          exact ⟨trivial, hnx _ _ ⟨bt, ys, _, _, _, _, hM, by omega, rfl⟩⟩
    have rest' := rest
    simp only [wpSs, wpS, wpE, wpEs, wpT, L3.w_add, L3.w_addS, L3.w_addT, L3.w_sub, L3.w_mul, L3.w_fdiv, L3.w_mod, L3.w_pow, L3.w_shl, L3.w_iadd, L3.w_isub, L3.w_neg, L3.w_lt, L3.w_le, L3.w_gt, L3.w_ge, L3.w_eq, L3.w_ne, L3.w_in, L3.w_nin, L3.w_tb, L3.w_ti, L3.w_tt, L3.w_ix0, L3.w_ix1, L3.w_ix2, L3.w_lenT, L3.w_lenK, L3.w_int, L3.w_intB, L3.w_max, L3.w_min, L3.w_rng1, L3.w_rng2, L3.w_one, L3.w_ixK, L3.w_itS, L3.w_lenS, L3.w_many, L3.w_eqS, L3.w_neS, L3.w_isN, L3.w_isNN, L3.w_itTup, List.getElem?_cons_zero, List.getElem?_cons_succ, List.set_cons_zero, List.set_cons_succ, Option.some.injEq, exists_eq_left', decide_eq_true_eq, Bool.false_eq_true, if_false, if_true, Bool.not_true, Bool.not_false, mokG, mokP, mokA, mokE, mokL, mokS, true_and, D.isNon, D.cn, wipeL] at rest' ⊢
    split
    · exact ⟨.inl ⟨by decide, by decide⟩, rest' _⟩
    · exact rest' n
  · rintro σ M' ⟨bt, ys, a, b, c, e, hM, hl, rfl⟩
    refine ⟨trivial, ?_⟩
    simp only [wpSs, wpS, wpE, wpEs, wpT, L3.w_add, L3.w_addS, L3.w_addT, L3.w_sub, L3.w_mul, L3.w_fdiv, L3.w_mod, L3.w_pow, L3.w_shl, L3.w_iadd, L3.w_isub, L3.w_neg, L3.w_lt, L3.w_le, L3.w_gt, L3.w_ge, L3.w_eq, L3.w_ne, L3.w_in, L3.w_nin, L3.w_tb, L3.w_ti, L3.w_tt, L3.w_ix0, L3.w_ix1, L3.w_ix2, L3.w_lenT, L3.w_lenK, L3.w_int, L3.w_intB, L3.w_max, L3.w_min, L3.w_rng1, L3.w_rng2, L3.w_one, L3.w_ixK, L3.w_itS, L3.w_lenS, L3.w_many, L3.w_eqS, L3.w_neS, L3.w_isN, L3.w_isNN, L3.w_itTup, List.getElem?_cons_zero, List.getElem?_cons_succ, List.set_cons_zero, List.set_cons_succ, Option.some.injEq, exists_eq_left', decide_eq_true_eq, Bool.false_eq_true, if_false, if_true, Bool.not_true, Bool.not_false, mokG, mokP, mokA, mokE, mokL, mokS, true_and, D.isNon, D.cn, wipeL]
    exact q p ys M' hp hM (Fr.hide1 hp bt)
end K25
end
section
set_option autoImplicit false
set_option linter.all false
set_option maxRecDepth 100000
set_option maxHeartbeats 4000000
namespace K25
open L3
open PySem (Addr Str PyData NestedKey)
theorem ok_law : Keeps P0 sp_law 13 b_law := by
  rintro ds M Q X ⟨ns, rfl, rfl, q⟩
  show wpSs P0 b_law _ _ [some (.kl (ns.map .int)), none, none, none, none, none, none, none, none, none, none, none, none] _
  unfold b_law
  simp only [wpSs, wpS, wpE, wpEs, wpT, L3.w_add, L3.w_addS, L3.w_addT, L3.w_sub, L3.w_mul, L3.w_fdiv, L3.w_mod, L3.w_pow, L3.w_shl, L3.w_iadd, L3.w_isub, L3.w_neg, L3.w_lt, L3.w_le, L3.w_gt, L3.w_ge, L3.w_eq, L3.w_ne, L3.w_in, L3.w_nin, L3.w_tb, L3.w_ti, L3.w_tt, L3.w_ix0, L3.w_ix1, L3.w_ix2, L3.w_lenT, L3.w_lenK, L3.w_int, L3.w_intB, L3.w_max, L3.w_min, L3.w_rng1, L3.w_rng2, L3.w_one, L3.w_ixK, L3.w_itS, L3.w_lenS, L3.w_many, L3.w_eqS, L3.w_neS, L3.w_isN, L3.w_isNN, L3.w_itTup, List.getElem?_cons_zero, List.getElem?_cons_succ, List.set_cons_zero, List.set_cons_succ, Option.some.injEq, exists_eq_left', decide_eq_true_eq, Bool.false_eq_true, if_false, if_true, Bool.not_true, Bool.not_false, mokG, mokP, mokA, mokE, mokL, mokS, true_and, D.isNon, D.cn, wipeL]
  refine ⟨ns, 30, rfl, by decide, fun d ys M1 hd0 hd f1 => ⟨one2 _ _, fun b hb => ?_⟩⟩
  have bx : BX (mset M1 b (.lst [.ref d, .int 0])) b d := ⟨ys, 0, mset_same, by rw [mset_ne (Fr.ne hd hb)]; exact hd, (Fr.ne hd hb).symm⟩
  revert bx
  generalize mset M1 b _ = M2
  intro bx
  refine ⟨b, d, rfl, bx, fun s ls S M3 t tb f3 hs => ?_⟩
  have gn := tb.gn
  have v0 := gn.v0
  have v1 := gn.v1
  have tb0 := tb.tb0
  have em := tb.emp
  simp only [wpSs, wpS, wpE, wpEs, wpT, L3.w_add, L3.w_addS, L3.w_addT, L3.w_sub, L3.w_mul, L3.w_fdiv, L3.w_mod, L3.w_pow, L3.w_shl, L3.w_iadd, L3.w_isub, L3.w_neg, L3.w_lt, L3.w_le, L3.w_gt, L3.w_ge, L3.w_eq, L3.w_ne, L3.w_in, L3.w_nin, L3.w_tb, L3.w_ti, L3.w_tt, L3.w_ix0, L3.w_ix1, L3.w_ix2, L3.w_lenT, L3.w_lenK, L3.w_int, L3.w_intB, L3.w_max, L3.w_min, L3.w_rng1, L3.w_rng2, L3.w_one, L3.w_ixK, L3.w_itS, L3.w_lenS, L3.w_many, L3.w_eqS, L3.w_neS, L3.w_isN, L3.w_isNN, L3.w_itTup, List.getElem?_cons_zero, List.getElem?_cons_succ, List.set_cons_zero, List.set_cons_succ, Option.some.injEq, exists_eq_left', decide_eq_true_eq, Bool.false_eq_true, if_false, if_true, Bool.not_true, Bool.not_false, mokG, mokP, mokA, mokE, mokL, mokS, true_and, D.isNon, D.cn, wipeL, t.ss.g_vat]
  refine ⟨Nat.zero_le _, fun p hp => ?_⟩
  refine ⟨p, S.vat, .tup [], rfl, mset_same, fun lt M5 T5 f5 hlt => ⟨rfl, ?_⟩⟩
  have hO := new_apart (M5 := M5) hp hlt
  have t5 := t.no (Fr.hide1 hp ((Fr.new hp).trans f5))
  have dj : ∀ a, OT p lt a → OS s ls a → False := fun a h1 h2 => t.ss.has h2 (hO a h1)
  have nb : ¬ OT p lt b := fun w => t.bx.has.1 (hO b w)
  have nd : ¬ OT p lt d := fun w => t.bx.has.2 (hO d w)
  refine ⟨p, lt, s, ls, S, .tup [], rfl, T5, t5.ss, dj, tb0.lok em (by decide), fun M6 T6 f6 => ?_⟩
  have t6 := t5.frO f6 nb nd dj
  have sm0_ : Same (loaded (.tup []) S) S := em.ld _
  generalize loaded (.tup []) S = St at T6 sm0_
  have atb : ∀ {Ma Mb : Mp} {St : Tb}, TT Ma p lt St → Fr (At b) Ma Mb → TT Mb p lt St := fun h f => h.fr f fun a e w => nb (by rw [← show a = b from e]; exact w)
  have no_ : ∀ {Ma Mb : Mp} {St : Tb}, TT Ma p lt St → Fr No Ma Mb → TT Mb p lt St := fun h f => h.fr f fun a e _ => e
  simp only [wpSs, wpS, wpE, wpEs, wpT, L3.w_add, L3.w_addS, L3.w_addT, L3.w_sub, L3.w_mul, L3.w_fdiv, L3.w_mod, L3.w_pow, L3.w_shl, L3.w_iadd, L3.w_isub, L3.w_neg, L3.w_lt, L3.w_le, L3.w_gt, L3.w_ge, L3.w_eq, L3.w_ne, L3.w_in, L3.w_nin, L3.w_tb, L3.w_ti, L3.w_tt, L3.w_ix0, L3.w_ix1, L3.w_ix2, L3.w_lenT, L3.w_lenK, L3.w_int, L3.w_intB, L3.w_max, L3.w_min, L3.w_rng1, L3.w_rng2, L3.w_one, L3.w_ixK, L3.w_itS, L3.w_lenS, L3.w_many, L3.w_eqS, L3.w_neS, L3.w_isN, L3.w_isNN, L3.w_itTup, List.getElem?_cons_zero, List.getElem?_cons_succ, List.set_cons_zero, List.set_cons_succ, Option.some.injEq, exists_eq_left', decide_eq_true_eq, Bool.false_eq_true, if_false, if_true, Bool.not_true, Bool.not_false, mokG, mokP, mokA, mokE, mokL, mokS, true_and, D.isNon, D.cn, wipeL]
  refine ⟨b, d, 9, rfl, by decide, t6.bx, fun n9 M7 n90 n91 bx7 f7 => ⟨sm0 (by omega) (by omega), ?_⟩⟩
  have t7 := t6.at_ bx7 f7
  have T7 := atb T6 f7
  refine forL_inv (fun i σ M' => ∃ (St : Tb) (pm an : List (D × D)) (out : List D) (x5 x6 x7 x8 x9 x10 x4 : Option D), TT M' p lt St ∧ SB M' b d s ls { S with promises := pm, answers := an, out := out } ∧ Same St { S with promises := pm, answers := an, out := out } ∧ DOk KI (Rec (Rg S.vat) 17 4) 12 pm ∧ 0 < pm.length ∧ DOk KP (Ans (Rg S.vat) 17 4) 12 an ∧ (∀ z ∈ out, Sm 30 z) ∧ out.length ≤ i ∧ σ = [some (.kl (ns.map .int)), some (.ref b), some (.ref s), some (.ref p), x4, x5, x6, x7, x8, x9, x10, none, none])
    ⟨St, S.promises, S.answers, S.out, none, none, none, none, none, none, none, T7, t7, sm0_, tb0.promises, tb.prom0, tb0.answers, by rw [em.out]; exact fun _ h => absurd h List.not_mem_nil, by rw [em.out]; exact Nat.le_refl _, rfl⟩ ?_ ?_
  · rintro i x σ M8 nx hx ⟨St, pm, an, out, x5, x6, x7, x8, x9, x10, x4, T, t, sm, dp, hpm, da, ho, hol, rfl⟩ hnx
    obtain ⟨hi, rfl⟩ := dRange_get' hx
    have hi : i < 8 := by omega
    refine ⟨trivial, ?_⟩
    unfold b_law_0
    simp only [wpSs, wpS, wpE, wpEs, wpT, L3.w_add, L3.w_addS, L3.w_addT, L3.w_sub, L3.w_mul, L3.w_fdiv, L3.w_mod, L3.w_pow, L3.w_shl, L3.w_iadd, L3.w_isub, L3.w_neg, L3.w_lt, L3.w_le, L3.w_gt, L3.w_ge, L3.w_eq, L3.w_ne, L3.w_in, L3.w_nin, L3.w_tb, L3.w_ti, L3.w_tt, L3.w_ix0, L3.w_ix1, L3.w_ix2, L3.w_lenT, L3.w_lenK, L3.w_int, L3.w_intB, L3.w_max, L3.w_min, L3.w_rng1, L3.w_rng2, L3.w_one, L3.w_ixK, L3.w_itS, L3.w_lenS, L3.w_many, L3.w_eqS, L3.w_neS, L3.w_isN, L3.w_isNN, L3.w_itTup, List.getElem?_cons_zero, List.getElem?_cons_succ, List.set_cons_zero, List.set_cons_succ, Option.some.injEq, exists_eq_left', decide_eq_true_eq, Bool.false_eq_true, if_false, if_true, Bool.not_true, Bool.not_false, mokG, mokP, mokA, mokE, mokL, mokS, true_and, D.isNon, D.cn, wipeL, t.ss.g_promises]
    refine comp_D t.ss.b_promises (fun k => some (.tup [.str "promise", k])) (Nat.le_trans dp.len (by decide)) ?_ ?_
    · intro x hx kk h
      exact ⟨one2 _ _, h⟩
    rw [unlk_D t.ss.b_promises]
    intro c1 hc1
    have t1 := t.new (o := .lst ((pm.map (·.1)).filterMap fun k => some (.tup [.str "promise", k]))) hc1
    have T1 := T.new (o := .lst ((pm.map (·.1)).filterMap fun k => some (.tup [.str "promise", k]))) hc1
    have g1 := @mset_same M8 c1 (.lst ((pm.map (·.1)).filterMap fun k => some (.tup [.str "promise", k])))
    have k1 : ∀ x ∈ (pm.map (·.1)).filterMap (fun k => some (D.tup [.str "promise", k])), KeyOk (Rg S.vat) 17 4 { S with promises := pm, answers := an, out := out } x ∧ ∀ k, x = pKey k → dhas pm (.int k) = true := fun x hx => by
      obtain ⟨k, hk, e⟩ := List.mem_filterMap.mp hx
      obtain ⟨p, hp, rfl⟩ := List.mem_map.mp hk
      obtain ⟨⟨i, hi, hb⟩, _⟩ := dp.all p hp
      cases e
      rw [hi]
      refine ⟨.inl ⟨i, rfl, hb⟩, fun k e => ?_⟩
      cases e
      unfold dhas
      rw [List.any_eq_true]
      exact ⟨p, hp, by rw [hi]; exact eqv_refl _⟩
    have l1 : ((pm.map (·.1)).filterMap (fun k => some (D.tup [.str "promise", k]))).length = pm.length := by
      rw [show (fun k => some (D.tup [.str "promise", k])) = some ∘ fun k => D.tup [.str "promise", k] from rfl, List.filterMap_eq_map, List.length_map, List.length_map]
    revert t1 T1 g1
    generalize (pm.map (·.1)).filterMap (fun k => some (D.tup [.str "promise", k])) = A1 at k1 l1
    generalize mset M8 c1 _ = M9
    intro t1 T1 g1
    simp only [wpSs, wpS, wpE, wpEs, wpT, L3.w_add, L3.w_addS, L3.w_addT, L3.w_sub, L3.w_mul, L3.w_fdiv, L3.w_mod, L3.w_pow, L3.w_shl, L3.w_iadd, L3.w_isub, L3.w_neg, L3.w_lt, L3.w_le, L3.w_gt, L3.w_ge, L3.w_eq, L3.w_ne, L3.w_in, L3.w_nin, L3.w_tb, L3.w_ti, L3.w_tt, L3.w_ix0, L3.w_ix1, L3.w_ix2, L3.w_lenT, L3.w_lenK, L3.w_int, L3.w_intB, L3.w_max, L3.w_min, L3.w_rng1, L3.w_rng2, L3.w_one, L3.w_ixK, L3.w_itS, L3.w_lenS, L3.w_many, L3.w_eqS, L3.w_neS, L3.w_isN, L3.w_isNN, L3.w_itTup, List.getElem?_cons_zero, List.getElem?_cons_succ, List.set_cons_zero, List.set_cons_succ, Option.some.injEq, exists_eq_left', decide_eq_true_eq, Bool.false_eq_true, if_false, if_true, Bool.not_true, Bool.not_false, mokG, mokP, mokA, mokE, mokL, mokS, true_and, D.isNon, D.cn, wipeL, t1.ss.g_answers]
    refine comp_T t1.ss.b_answers ansK (Nat.le_trans da.len (by decide)) ?_ ?_
    · intro x hx kk h
      obtain ⟨p, hp, rfl⟩ := List.mem_map.mp hx
      obtain ⟨i, j, e, _⟩ := (da.all p hp).1
      rw [e] at h ⊢
      simp only [wpSs, wpS, wpE, wpEs, wpT, L3.w_add, L3.w_addS, L3.w_addT, L3.w_sub, L3.w_mul, L3.w_fdiv, L3.w_mod, L3.w_pow, L3.w_shl, L3.w_iadd, L3.w_isub, L3.w_neg, L3.w_lt, L3.w_le, L3.w_gt, L3.w_ge, L3.w_eq, L3.w_ne, L3.w_in, L3.w_nin, L3.w_tb, L3.w_ti, L3.w_tt, L3.w_ix0, L3.w_ix1, L3.w_ix2, L3.w_lenT, L3.w_lenK, L3.w_int, L3.w_intB, L3.w_max, L3.w_min, L3.w_rng1, L3.w_rng2, L3.w_one, L3.w_ixK, L3.w_itS, L3.w_lenS, L3.w_many, L3.w_eqS, L3.w_neS, L3.w_isN, L3.w_isNN, L3.w_itTup, List.getElem?_cons_zero, List.getElem?_cons_succ, List.set_cons_zero, List.set_cons_succ, Option.some.injEq, exists_eq_left', decide_eq_true_eq, Bool.false_eq_true, if_false, if_true, Bool.not_true, Bool.not_false, mokG, mokP, mokA, mokE, mokL, mokS, true_and, D.isNon, D.cn, wipeL]
      exact ⟨one3 _ _ _, h⟩
    rw [unlk_T t1.ss.b_answers]
    change wpNew M9 (.lst ((an.map (·.1)).filterMap ansK)) _
    have k2 : ∀ x ∈ (an.map (·.1)).filterMap ansK, KeyOk (Rg S.vat) 17 4 { S with promises := pm, answers := an, out := out } x ∧ ∀ k, x = pKey k → dhas pm (.int k) = true := fun x hx => by
      obtain ⟨k, hk, e⟩ := List.mem_filterMap.mp hx
      obtain ⟨p, hp, rfl⟩ := List.mem_map.mp hk
      obtain ⟨⟨i, j, hi, h1, h2⟩, hA⟩ := da.all p hp
      have hh : dhas an (aK i j) = true := by
        unfold dhas
        rw [List.any_eq_true]
        exact ⟨p, hp, by rw [hi]; exact eqv_refl _⟩
      obtain ⟨a, ha⟩ := dhas_iff.mp hh
      rw [hi] at e
      cases e
      refine ⟨.inr ⟨i, j, a, rfl, h1, h2, ha, da.get ha⟩, fun k e => ?_⟩
      cases e
    have l2 : ((an.map (·.1)).filterMap ansK).length ≤ 12 := Nat.le_trans (List.length_filterMap_le _ _) (by rw [List.length_map]; exact da.len)
    generalize (an.map (·.1)).filterMap ansK = A2 at k2 l2
    intro c2 hc2
    have t2 := t1.new (o := .lst A2) hc2
    have T2 := T1.new (o := .lst A2) hc2
    refine (w_addL ((mset_ne (Fr.ne g1 hc2)).trans g1) mset_same).mpr ⟨by rw [l1]; have := dp.len; exact sl_small _, fun c3 hc3 => ?_⟩
    have t3 := t2.new (o := .lst (A1 ++ A2)) hc3
    have T3 := T2.new (o := .lst (A1 ++ A2)) hc3
    have c3b : c3 ≠ b := by rintro rfl; exact t2.bx.has.1 hc3
    have g3 := @mset_same (mset M9 c2 (.lst A2)) c3 (.lst (A1 ++ A2))
    have kA : ∀ x ∈ A1 ++ A2, KeyOk (Rg S.vat) 17 4 { S with promises := pm, answers := an, out := out } x ∧ ∀ k, x = pKey k → dhas pm (.int k) = true := fun x hx => (List.mem_append.mp hx).elim (k1 x) (k2 x)
    have lA : 0 < (A1 ++ A2).length := by rw [List.length_append, l1]; omega
    revert t3 T3 g3
    generalize mset (mset M9 c2 _) c3 _ = M10
    generalize A1 ++ A2 = A at kA lA
    intro t3 T3 g3
    refine (w_lenL g3).mpr ⟨b, d, A.length, rfl, by omega, t3.bx, fun k M11 k0 k1 bx11 f11 => ?_⟩
    have t4 := t3.at_ bx11 f11
    have T4 := atb T3 f11
    have g4 := f11.get (a := c3) c3b g3
    obtain ⟨x, ex, xm⟩ := atD_lt k0 k1
    obtain ⟨kx, kxp⟩ := kA x xm
    refine (w_ixL g4).mpr ⟨_, ex, ?_⟩
    refine ⟨b, d, s, ls, _, rfl, t4, ⟨v0, v1, gn.t0, gn.t1⟩, fun r M12 hr bx12 f12 => ?_⟩
    have t5 := t4.at_ bx12 f12
    have T5 := atb T4 f12
    have hold := rec_at kx dp
    have so := hold.sm (by decide) (by decide)
    have sr := hr.sm (by decide) (by decide)
    have hout : (recAt { S with promises := pm, answers := an, out := out } x) = recAt St x := (sm.recs).symm
    generalize hoe : recAt { S with promises := pm, answers := an, out := out } x = old at hold so hout
    have fin : ∀ (M13 : Mp) (pm3 an3 : List (D × D)) (out3 : List D) (x9 x10 : Option D), SB M13 b d s ls { S with promises := pm3, answers := an3, out := out3 } → TT M13 p lt St → ({ S with promises := pm3, answers := an3, out := out3 } : Tb) = setRec { S with promises := pm, answers := an, out := out } x r → DOk KI (Rec (Rg S.vat) 17 4) 12 pm3 → 0 < pm3.length → DOk KP (Ans (Rg S.vat) 17 4) 12 an3 → (∀ z ∈ out3, Sm 30 z) → out3.length ≤ i + 1 →
        sp_set_record [.ref p, x, r] M13 (fun _ M1 => sp_record_at [.ref p, x] M1 (fun d1 M1 => sp__law_same [d1, r] M1 (fun y M1 => truthy y M1 fun r4 => if (!r4) = true then Q (.bl false) (id M1) else sp__law_told [.ref p] M1 (fun d M1 => sp__law_due [.ref s] M1 (fun d1 M1 => sp__law_same [d, d1] M1 (fun y M1 => truthy y M1 fun r5 => if (!r5) = true then Q (.bl false) (id M1) else nx [some (.kl (ns.map .int)), some (.ref b), some (.ref s), some (.ref p), some (.int (0 + (i : Int))), some (.ref c3), some x, some r, some old, x9, x10, none, none] M1) X) X) X) X) X) X := by
      intro M13 pm3 an3 out3 x9 x10 tM TM e3 dp3 hpm3 da3 ho3 hol3
      refine ⟨p, lt, St, Rg S.vat, 17, 4, x, r, rfl, TM, kx.same sm, by rw [← hout]; exact hold, hr, by rw [sm.out]; show out.length ≤ _; omega, ⟨by rw [sm.promises]; have := dp.len; show pm.length ≤ _; omega, by rw [sm.answers]; have := da.len; show an.length ≤ _; omega⟩, fun M14 T14 f14 => ?_⟩
      have t14 := tM.frO f14 nb nd dj
      have sm' := sm.setRec (r := r) kx
      rw [← e3] at sm'
      refine ⟨p, lt, _, Rg S.vat, 17, 4, x, rfl, T14, key_set (kx.same sm) hr, ?_⟩
      rw [recAt_set (kx.same sm)]
      refine ⟨r, r, _, rfl, sm_deep sr.1, sm_deep sr.1, told_sm sr.1 (by omega) (by omega), ?_⟩
      simp only [wpSs, wpS, wpE, wpEs, wpT, L3.w_add, L3.w_addS, L3.w_addT, L3.w_sub, L3.w_mul, L3.w_fdiv, L3.w_mod, L3.w_pow, L3.w_shl, L3.w_iadd, L3.w_isub, L3.w_neg, L3.w_lt, L3.w_le, L3.w_gt, L3.w_ge, L3.w_eq, L3.w_ne, L3.w_in, L3.w_nin, L3.w_tb, L3.w_ti, L3.w_tt, L3.w_ix0, L3.w_ix1, L3.w_ix2, L3.w_lenT, L3.w_lenK, L3.w_int, L3.w_intB, L3.w_max, L3.w_min, L3.w_rng1, L3.w_rng2, L3.w_one, L3.w_ixK, L3.w_itS, L3.w_lenS, L3.w_many, L3.w_eqS, L3.w_neS, L3.w_isN, L3.w_isNN, L3.w_itTup, List.getElem?_cons_zero, List.getElem?_cons_succ, List.set_cons_zero, List.set_cons_succ, Option.some.injEq, exists_eq_left', decide_eq_true_eq, Bool.false_eq_true, if_false, if_true, Bool.not_true, Bool.not_false, mokG, mokP, mokA, mokE, mokL, mokS, true_and, D.isNon, D.cn, wipeL]
      have z1 : Tb0 (Rg S.vat) 17 4 12 { S with promises := pm3, answers := an3, out := out3 } := { tb0 with answers := da3, promises := dp3 }
      have rows : ∀ l ∈ ({ S with promises := pm3, answers := an3, out := out3 } : Tb).ls1, LOk ((230 + 15) * 12) l := by
        have e := em
        intro l hl
        simp only [Tb.ls1, e.queue, e.parked, e.early, e.waiting, e.listeners, e.transfers, e.log, e.order, List.mem_cons, List.not_mem_nil, or_false] at hl
        have oo : LOk ((230 + 15) * 12) out3 := by
          have := LOk.of (n := 9) (m := 30) ho3 (by omega)
          exact ⟨this.1, Nat.le_trans this.2.1 (by decide), this.2.2⟩
        rcases hl with rfl | rfl | rfl | rfl | rfl | rfl | rfl | rfl | rfl <;> first | exact rows_nil | exact oo
      have e := em
      have tk : TOk 12 230 { S with promises := pm3, answers := an3, out := out3 } := z1.told (by decide) (by decide) ⟨by rw [show ({ S with promises := pm3, answers := an3, out := out3 } : Tb).made = 0 from e.made]; decide, by rw [show ({ S with promises := pm3, answers := an3, out := out3 } : Tb).sent = 0 from e.sent]; decide, by rw [show ({ S with promises := pm3, answers := an3, out := out3 } : Tb).asked = 0 from e.asked]; decide⟩ e.hoped e.places e.arrived e.pins rows
      have dl : dueOf { S with promises := pm3, answers := an3, out := out3 } = { S with promises := pm3, answers := an3, out := out3 } := by
        unfold dueOf
        simp only [e.log, List.length_nil, List.replicate_zero, e.order]
      have tkT := sm'.tok (by rw [dl]; exact tk)
      refine ⟨p, lt, _, 12, 230, rfl, T14, tkT, fun a1 M15 da1 f15 => ?_⟩
      have t15 := t14.no f15
      refine ⟨s, ls, _, 12, 230, rfl, t15.ss, tk, by rw [show ({ S with promises := pm3, answers := an3, out := out3 } : Tb).log = [] from e.log]; exact Nat.zero_le _, int_sm (by show S.vat.natAbs ≤ 1000000; omega), fun a2 M16 da2' f16 => ?_⟩
      rw [← sm'.told] at da2'
      refine ⟨_, _, _, rfl, da1.keep f16, da2', told_ok tkT (by decide), ?_⟩
      exact hnx _ _ ⟨_, pm3, an3, out3, _, _, _, _, _, _, _, no_ (no_ T14 f15) f16, t15.no f16, sm', dp3, hpm3, da3, ho3, hol3, rfl⟩
    have kx0 := kx
    rcases kx with ⟨kk, rfl, hkk⟩ | ⟨v, qn, a, rfl, hv, hq, ha, hA⟩
    · obtain ⟨old', ho_⟩ := dhas_iff.mp (kxp kk rfl)
      have eo : old' = old := by
        rw [← hoe]
        show old' = (dget pm (.int kk)).getD pend
        rw [ho_]; rfl
      rw [eo] at ho_
      unfold pKey at *
      simp only [wpSs, wpS, wpE, wpEs, wpT, L3.w_add, L3.w_addS, L3.w_addT, L3.w_sub, L3.w_mul, L3.w_fdiv, L3.w_mod, L3.w_pow, L3.w_shl, L3.w_iadd, L3.w_isub, L3.w_neg, L3.w_lt, L3.w_le, L3.w_gt, L3.w_ge, L3.w_eq, L3.w_ne, L3.w_in, L3.w_nin, L3.w_tb, L3.w_ti, L3.w_tt, L3.w_ix0, L3.w_ix1, L3.w_ix2, L3.w_lenT, L3.w_lenK, L3.w_int, L3.w_intB, L3.w_max, L3.w_min, L3.w_rng1, L3.w_rng2, L3.w_one, L3.w_ixK, L3.w_itS, L3.w_lenS, L3.w_many, L3.w_eqS, L3.w_neS, L3.w_isN, L3.w_isNN, L3.w_itTup, List.getElem?_cons_zero, List.getElem?_cons_succ, List.set_cons_zero, List.set_cons_succ, Option.some.injEq, exists_eq_left', decide_eq_true_eq, Bool.false_eq_true, if_false, if_true, Bool.not_true, Bool.not_false, mokG, mokP, mokA, mokE, mokL, mokS, true_and, D.isNon, D.cn, wipeL, t5.ss.g_promises]
      refine (w_ixD t5.ss.b_promises).mpr ⟨rfl, old, ho_, ?_⟩
      simp only [t5.ss.g_promises]
      refine (w_setD t5.ss.b_promises).mpr ⟨⟨rfl, len_lt dp (by decide)⟩, ?_⟩
      have t13 := t5.wr (i := .promises) (o := .dct (dput pm (.int kk) r)) nofun (Fr.set rfl) mset_same trivial
      have T13 := T5.fr (O := At (ls .promises)) (Fr.set (o := .dct (dput pm (.int kk) r)) rfl) fun a e w => dj a w (.inr ⟨.promises, nofun, e⟩)
      have dp2 := dp.set KI.ok ⟨kk, rfl, hkk⟩ hr (kxp kk rfl)
      have hpm2 : 0 < (dput pm (.int kk) r).length := dput_pos
      have da2 := da
      have e2 : ({ S with promises := dput pm (.int kk) r, answers := an, out := out } : Tb) = putRec { S with promises := pm, answers := an, out := out } (.tup [.str "promise", .int kk]) r := rfl
      refine ⟨p, lt, St, Rg S.vat, 17, 4, _, rfl, T13, kx0.same sm, ?_⟩
      rw [← hout]
      refine ⟨old, old, _, rfl, sm_deep so.1, sm_deep so.1, told_sm so.1 (by omega) (by omega), ?_⟩
      simp only [wpSs, wpS, wpE, wpEs, wpT, L3.w_add, L3.w_addS, L3.w_addT, L3.w_sub, L3.w_mul, L3.w_fdiv, L3.w_mod, L3.w_pow, L3.w_shl, L3.w_iadd, L3.w_isub, L3.w_neg, L3.w_lt, L3.w_le, L3.w_gt, L3.w_ge, L3.w_eq, L3.w_ne, L3.w_in, L3.w_nin, L3.w_tb, L3.w_ti, L3.w_tt, L3.w_ix0, L3.w_ix1, L3.w_ix2, L3.w_lenT, L3.w_lenK, L3.w_int, L3.w_intB, L3.w_max, L3.w_min, L3.w_rng1, L3.w_rng2, L3.w_one, L3.w_ixK, L3.w_itS, L3.w_lenS, L3.w_many, L3.w_eqS, L3.w_neS, L3.w_isN, L3.w_isNN, L3.w_itTup, List.getElem?_cons_zero, List.getElem?_cons_succ, List.set_cons_zero, List.set_cons_succ, Option.some.injEq, exists_eq_left', decide_eq_true_eq, Bool.false_eq_true, if_false, if_true, Bool.not_true, Bool.not_false, mokG, mokP, mokA, mokE, mokL, mokS, true_and, D.isNon, D.cn, wipeL]
      rcases hold with rfl | (⟨y, rfl, h⟩ | ⟨y, rfl, h⟩) | ⟨a', c', w', rfl, h1, h2, h3⟩
      · simp only [wpSs, wpS, wpE, wpEs, wpT, L3.w_add, L3.w_addS, L3.w_addT, L3.w_sub, L3.w_mul, L3.w_fdiv, L3.w_mod, L3.w_pow, L3.w_shl, L3.w_iadd, L3.w_isub, L3.w_neg, L3.w_lt, L3.w_le, L3.w_gt, L3.w_ge, L3.w_eq, L3.w_ne, L3.w_in, L3.w_nin, L3.w_tb, L3.w_ti, L3.w_tt, L3.w_ix0, L3.w_ix1, L3.w_ix2, L3.w_lenT, L3.w_lenK, L3.w_int, L3.w_intB, L3.w_max, L3.w_min, L3.w_rng1, L3.w_rng2, L3.w_one, L3.w_ixK, L3.w_itS, L3.w_lenS, L3.w_many, L3.w_eqS, L3.w_neS, L3.w_isN, L3.w_isNN, L3.w_itTup, List.getElem?_cons_zero, List.getElem?_cons_succ, List.set_cons_zero, List.set_cons_succ, Option.some.injEq, exists_eq_left', decide_eq_true_eq, Bool.false_eq_true, if_false, if_true, Bool.not_true, Bool.not_false, mokG, mokP, mokA, mokE, mokL, mokS, true_and, D.isNon, D.cn, wipeL]
        rw [if_neg (by decide)]
        exact fin _ _ _ out _ _ t13 T13 (by rw [setRec_nil kx0 (by rw [hoe]; exact relE_no (by decide))]; exact e2) dp2 hpm2 da2 ho (by omega)
      · simp only [wpSs, wpS, wpE, wpEs, wpT, L3.w_add, L3.w_addS, L3.w_addT, L3.w_sub, L3.w_mul, L3.w_fdiv, L3.w_mod, L3.w_pow, L3.w_shl, L3.w_iadd, L3.w_isub, L3.w_neg, L3.w_lt, L3.w_le, L3.w_gt, L3.w_ge, L3.w_eq, L3.w_ne, L3.w_in, L3.w_nin, L3.w_tb, L3.w_ti, L3.w_tt, L3.w_ix0, L3.w_ix1, L3.w_ix2, L3.w_lenT, L3.w_lenK, L3.w_int, L3.w_intB, L3.w_max, L3.w_min, L3.w_rng1, L3.w_rng2, L3.w_one, L3.w_ixK, L3.w_itS, L3.w_lenS, L3.w_many, L3.w_eqS, L3.w_neS, L3.w_isN, L3.w_isNN, L3.w_itTup, List.getElem?_cons_zero, List.getElem?_cons_succ, List.set_cons_zero, List.set_cons_succ, Option.some.injEq, exists_eq_left', decide_eq_true_eq, Bool.false_eq_true, if_false, if_true, Bool.not_true, Bool.not_false, mokG, mokP, mokA, mokE, mokL, mokS, true_and, D.isNon, D.cn, wipeL]
        rw [if_neg (by decide)]
        exact fin _ _ _ out _ _ t13 T13 (by rw [setRec_nil kx0 (by rw [hoe]; exact relE_no (by decide))]; exact e2) dp2 hpm2 da2 ho (by omega)
      · simp only [wpSs, wpS, wpE, wpEs, wpT, L3.w_add, L3.w_addS, L3.w_addT, L3.w_sub, L3.w_mul, L3.w_fdiv, L3.w_mod, L3.w_pow, L3.w_shl, L3.w_iadd, L3.w_isub, L3.w_neg, L3.w_lt, L3.w_le, L3.w_gt, L3.w_ge, L3.w_eq, L3.w_ne, L3.w_in, L3.w_nin, L3.w_tb, L3.w_ti, L3.w_tt, L3.w_ix0, L3.w_ix1, L3.w_ix2, L3.w_lenT, L3.w_lenK, L3.w_int, L3.w_intB, L3.w_max, L3.w_min, L3.w_rng1, L3.w_rng2, L3.w_one, L3.w_ixK, L3.w_itS, L3.w_lenS, L3.w_many, L3.w_eqS, L3.w_neS, L3.w_isN, L3.w_isNN, L3.w_itTup, List.getElem?_cons_zero, List.getElem?_cons_succ, List.set_cons_zero, List.set_cons_succ, Option.some.injEq, exists_eq_left', decide_eq_true_eq, Bool.false_eq_true, if_false, if_true, Bool.not_true, Bool.not_false, mokG, mokP, mokA, mokE, mokL, mokS, true_and, D.isNon, D.cn, wipeL]
        rw [if_neg (by decide)]
        exact fin _ _ _ out _ _ t13 T13 (by rw [setRec_nil kx0 (by rw [hoe]; exact relE_no (by decide))]; exact e2) dp2 hpm2 da2 ho (by omega)
      · obtain ⟨z, es, rfl⟩ := rec_hd hr
        simp only [wpSs, wpS, wpE, wpEs, wpT, L3.w_add, L3.w_addS, L3.w_addT, L3.w_sub, L3.w_mul, L3.w_fdiv, L3.w_mod, L3.w_pow, L3.w_shl, L3.w_iadd, L3.w_isub, L3.w_neg, L3.w_lt, L3.w_le, L3.w_gt, L3.w_ge, L3.w_eq, L3.w_ne, L3.w_in, L3.w_nin, L3.w_tb, L3.w_ti, L3.w_tt, L3.w_ix0, L3.w_ix1, L3.w_ix2, L3.w_lenT, L3.w_lenK, L3.w_int, L3.w_intB, L3.w_max, L3.w_min, L3.w_rng1, L3.w_rng2, L3.w_one, L3.w_ixK, L3.w_itS, L3.w_lenS, L3.w_many, L3.w_eqS, L3.w_neS, L3.w_isN, L3.w_isNN, L3.w_itTup, List.getElem?_cons_zero, List.getElem?_cons_succ, List.set_cons_zero, List.set_cons_succ, Option.some.injEq, exists_eq_left', decide_eq_true_eq, Bool.false_eq_true, if_false, if_true, Bool.not_true, Bool.not_false, mokG, mokP, mokA, mokE, mokL, mokS, true_and, D.isNon, D.cn, wipeL]
        refine ⟨one2 _ _, fun c4 hc4 => ?_⟩
        refine (w_inL mset_same).mpr ⟨⟨rfl, fun d hd => by simp only [List.mem_cons, List.not_mem_nil, or_false] at hd; rcases hd with rfl | rfl <;> rfl⟩, ?_⟩
        have t14 := t13.new (o := .lst [.str "fulfilled", .str "broken"]) hc4
        have T14 := T13.new (o := .lst [.str "fulfilled", .str "broken"]) hc4
        simp only [List.any_cons, List.any_nil, eqv_str, Bool.or_false, Bool.or_eq_true, decide_eq_true_eq]
        have h0 : hdS (.tup (.str z :: es)) = z := rfl
        by_cases e : "fulfilled" = z ∨ "broken" = z
        · rw [if_pos e]
          simp only [wpSs, wpS, wpE, wpEs, wpT, L3.w_add, L3.w_addS, L3.w_addT, L3.w_sub, L3.w_mul, L3.w_fdiv, L3.w_mod, L3.w_pow, L3.w_shl, L3.w_iadd, L3.w_isub, L3.w_neg, L3.w_lt, L3.w_le, L3.w_gt, L3.w_ge, L3.w_eq, L3.w_ne, L3.w_in, L3.w_nin, L3.w_tb, L3.w_ti, L3.w_tt, L3.w_ix0, L3.w_ix1, L3.w_ix2, L3.w_lenT, L3.w_lenK, L3.w_int, L3.w_intB, L3.w_max, L3.w_min, L3.w_rng1, L3.w_rng2, L3.w_one, L3.w_ixK, L3.w_itS, L3.w_lenS, L3.w_many, L3.w_eqS, L3.w_neS, L3.w_isN, L3.w_isNN, L3.w_itTup, List.getElem?_cons_zero, List.getElem?_cons_succ, List.set_cons_zero, List.set_cons_succ, Option.some.injEq, exists_eq_left', decide_eq_true_eq, Bool.false_eq_true, if_false, if_true, Bool.not_true, Bool.not_false, mokG, mokP, mokA, mokE, mokL, mokS, true_and, D.isNon, D.cn, wipeL, t14.ss.g_out, w_rcvL t14.ss.b_out]
          refine (w_ixTup).mpr ⟨_, rfl, one3 _ _ _, one2 _ _, ?_⟩
          refine ⟨w_rcvL t14.ss.b_out, (w_app t14.ss.b_out).mpr ⟨len100 (by show out.length ≤ _; omega), ?_⟩⟩
          have t15 := t14.wr (i := .out) (o := .lst (out ++ [.tup [.int a', .tup [.str "release_answer", .int c', pr w']]])) nofun (Fr.set rfl) mset_same trivial
          have T15 := T14.fr (O := At (ls .out)) (Fr.set (o := .lst (out ++ [.tup [.int a', .tup [.str "release_answer", .int c', pr w']]])) rfl) fun a e w => dj a w (.inr ⟨.out, nofun, e⟩)
          have rs := relE_sm (R := Rg S.vat) (V := 17) (K := 4) (r := .tup [.str "forwarded", .int a', .int c', pr w']) (.inr (.inr ⟨a', c', w', rfl, h1, h2, h3⟩)) (by decide) (by decide)
          refine fin _ _ _ (out ++ relE (.tup [.str "forwarded", .int a', .int c', pr w'])) _ _ t15 T15 ?_ dp2 hpm2 da2 (fun z hz => (List.mem_append.mp hz).elim (ho z) (rs.1 z)) (by rw [List.length_append]; have := rs.2; omega)
          unfold setRec
          rw [h0, if_pos (e.imp Eq.symm Eq.symm), hoe, ← e2]
          rfl
        · rw [if_neg e]
          refine fin _ _ _ out _ _ t14 T14 ?_ dp2 hpm2 da2 ho (by omega)
          unfold setRec
          rw [h0, if_neg (fun z => e (z.imp Eq.symm Eq.symm))]
          exact e2
    · obtain ⟨i', j', rc, w, rfl, hi', hj', hrc, hw⟩ := hA
      have eo : rc = old := by
        rw [← hoe]
        unfold recAt aKey
        simp only [show dget ({ S with promises := pm, answers := an, out := out } : Tb).answers (aK v qn) = _ from ha]
      rw [eo] at ha
      have ha0 : dget an (aK v qn) = some (.tup [.tup [.int i', .int j'], old, pr w]) := ha
      unfold aKey at *
      simp only [wpSs, wpS, wpE, wpEs, wpT, L3.w_add, L3.w_addS, L3.w_addT, L3.w_sub, L3.w_mul, L3.w_fdiv, L3.w_mod, L3.w_pow, L3.w_shl, L3.w_iadd, L3.w_isub, L3.w_neg, L3.w_lt, L3.w_le, L3.w_gt, L3.w_ge, L3.w_eq, L3.w_ne, L3.w_in, L3.w_nin, L3.w_tb, L3.w_ti, L3.w_tt, L3.w_ix0, L3.w_ix1, L3.w_ix2, L3.w_lenT, L3.w_lenK, L3.w_int, L3.w_intB, L3.w_max, L3.w_min, L3.w_rng1, L3.w_rng2, L3.w_one, L3.w_ixK, L3.w_itS, L3.w_lenS, L3.w_many, L3.w_eqS, L3.w_neS, L3.w_isN, L3.w_isNN, L3.w_itTup, List.getElem?_cons_zero, List.getElem?_cons_succ, List.set_cons_zero, List.set_cons_succ, Option.some.injEq, exists_eq_left', decide_eq_true_eq, Bool.false_eq_true, if_false, if_true, Bool.not_true, Bool.not_false, mokG, mokP, mokA, mokE, mokL, mokS, true_and, D.isNon, D.cn, wipeL]
      rw [if_neg (by decide)]
      simp only [t5.ss.g_answers]
      refine (w_slT).mpr ⟨⟨rfl, rfl⟩, ?_⟩
      rw [cut1_a]
      refine (w_ixT t5.ss.b_answers).mpr ⟨aK_hkT hv hq, _, ha0, ⟨_, rfl, ?_⟩⟩
      simp only [wpSs, wpS, wpE, wpEs, wpT, L3.w_add, L3.w_addS, L3.w_addT, L3.w_sub, L3.w_mul, L3.w_fdiv, L3.w_mod, L3.w_pow, L3.w_shl, L3.w_iadd, L3.w_isub, L3.w_neg, L3.w_lt, L3.w_le, L3.w_gt, L3.w_ge, L3.w_eq, L3.w_ne, L3.w_in, L3.w_nin, L3.w_tb, L3.w_ti, L3.w_tt, L3.w_ix0, L3.w_ix1, L3.w_ix2, L3.w_lenT, L3.w_lenK, L3.w_int, L3.w_intB, L3.w_max, L3.w_min, L3.w_rng1, L3.w_rng2, L3.w_one, L3.w_ixK, L3.w_itS, L3.w_lenS, L3.w_many, L3.w_eqS, L3.w_neS, L3.w_isN, L3.w_isNN, L3.w_itTup, List.getElem?_cons_zero, List.getElem?_cons_succ, List.set_cons_zero, List.set_cons_succ, Option.some.injEq, exists_eq_left', decide_eq_true_eq, Bool.false_eq_true, if_false, if_true, Bool.not_true, Bool.not_false, mokG, mokP, mokA, mokE, mokL, mokS, true_and, D.isNon, D.cn, wipeL, t5.ss.g_answers]
      refine ⟨one3 _ _ _, (w_slT).mpr ⟨⟨rfl, rfl⟩, ?_⟩⟩
      rw [cut1_a]
      refine (w_setT t5.ss.b_answers).mpr ⟨⟨aK_hkT hv hq, len_lt da (by decide)⟩, ?_⟩
      have t13 := t5.wr (i := .answers) (o := .dcT (dput an (.tup [.int v, .int qn]) (.tup [.tup [.int i', .int j'], r, pr w]))) nofun (Fr.set rfl) mset_same trivial
      have T13 := T5.fr (O := At (ls .answers)) (Fr.set (o := .dcT (dput an (.tup [.int v, .int qn]) (.tup [.tup [.int i', .int j'], r, pr w]))) rfl) fun a e w => dj a w (.inr ⟨.answers, nofun, e⟩)
      have dp2 := dp
      have hpm2 := hpm
      have da2 := da.set KP.ok ⟨v, qn, rfl, hv, hq⟩ ⟨i', j', r, w, rfl, hi', hj', hr, hw⟩ (dhas_iff.mpr ⟨_, ha0⟩)
      have e2 : ({ S with promises := pm, answers := dput an (aK v qn) (.tup [.tup [.int i', .int j'], r, pr w]), out := out } : Tb) = putRec { S with promises := pm, answers := an, out := out } (.tup [.str "answer", .int v, .int qn]) r := by
        unfold putRec
        simp only [ha0]
      refine ⟨p, lt, St, Rg S.vat, 17, 4, _, rfl, T13, kx0.same sm, ?_⟩
      rw [← hout]
      refine ⟨old, old, _, rfl, sm_deep so.1, sm_deep so.1, told_sm so.1 (by omega) (by omega), ?_⟩
      simp only [wpSs, wpS, wpE, wpEs, wpT, L3.w_add, L3.w_addS, L3.w_addT, L3.w_sub, L3.w_mul, L3.w_fdiv, L3.w_mod, L3.w_pow, L3.w_shl, L3.w_iadd, L3.w_isub, L3.w_neg, L3.w_lt, L3.w_le, L3.w_gt, L3.w_ge, L3.w_eq, L3.w_ne, L3.w_in, L3.w_nin, L3.w_tb, L3.w_ti, L3.w_tt, L3.w_ix0, L3.w_ix1, L3.w_ix2, L3.w_lenT, L3.w_lenK, L3.w_int, L3.w_intB, L3.w_max, L3.w_min, L3.w_rng1, L3.w_rng2, L3.w_one, L3.w_ixK, L3.w_itS, L3.w_lenS, L3.w_many, L3.w_eqS, L3.w_neS, L3.w_isN, L3.w_isNN, L3.w_itTup, List.getElem?_cons_zero, List.getElem?_cons_succ, List.set_cons_zero, List.set_cons_succ, Option.some.injEq, exists_eq_left', decide_eq_true_eq, Bool.false_eq_true, if_false, if_true, Bool.not_true, Bool.not_false, mokG, mokP, mokA, mokE, mokL, mokS, true_and, D.isNon, D.cn, wipeL]
      rcases hold with rfl | (⟨y, rfl, h⟩ | ⟨y, rfl, h⟩) | ⟨a', c', w', rfl, h1, h2, h3⟩
      · simp only [wpSs, wpS, wpE, wpEs, wpT, L3.w_add, L3.w_addS, L3.w_addT, L3.w_sub, L3.w_mul, L3.w_fdiv, L3.w_mod, L3.w_pow, L3.w_shl, L3.w_iadd, L3.w_isub, L3.w_neg, L3.w_lt, L3.w_le, L3.w_gt, L3.w_ge, L3.w_eq, L3.w_ne, L3.w_in, L3.w_nin, L3.w_tb, L3.w_ti, L3.w_tt, L3.w_ix0, L3.w_ix1, L3.w_ix2, L3.w_lenT, L3.w_lenK, L3.w_int, L3.w_intB, L3.w_max, L3.w_min, L3.w_rng1, L3.w_rng2, L3.w_one, L3.w_ixK, L3.w_itS, L3.w_lenS, L3.w_many, L3.w_eqS, L3.w_neS, L3.w_isN, L3.w_isNN, L3.w_itTup, List.getElem?_cons_zero, List.getElem?_cons_succ, List.set_cons_zero, List.set_cons_succ, Option.some.injEq, exists_eq_left', decide_eq_true_eq, Bool.false_eq_true, if_false, if_true, Bool.not_true, Bool.not_false, mokG, mokP, mokA, mokE, mokL, mokS, true_and, D.isNon, D.cn, wipeL]
        rw [if_neg (by decide)]
        exact fin _ _ _ out _ _ t13 T13 (by rw [setRec_nil kx0 (by rw [hoe]; exact relE_no (by decide))]; exact e2) dp2 hpm2 da2 ho (by omega)
      · simp only [wpSs, wpS, wpE, wpEs, wpT, L3.w_add, L3.w_addS, L3.w_addT, L3.w_sub, L3.w_mul, L3.w_fdiv, L3.w_mod, L3.w_pow, L3.w_shl, L3.w_iadd, L3.w_isub, L3.w_neg, L3.w_lt, L3.w_le, L3.w_gt, L3.w_ge, L3.w_eq, L3.w_ne, L3.w_in, L3.w_nin, L3.w_tb, L3.w_ti, L3.w_tt, L3.w_ix0, L3.w_ix1, L3.w_ix2, L3.w_lenT, L3.w_lenK, L3.w_int, L3.w_intB, L3.w_max, L3.w_min, L3.w_rng1, L3.w_rng2, L3.w_one, L3.w_ixK, L3.w_itS, L3.w_lenS, L3.w_many, L3.w_eqS, L3.w_neS, L3.w_isN, L3.w_isNN, L3.w_itTup, List.getElem?_cons_zero, List.getElem?_cons_succ, List.set_cons_zero, List.set_cons_succ, Option.some.injEq, exists_eq_left', decide_eq_true_eq, Bool.false_eq_true, if_false, if_true, Bool.not_true, Bool.not_false, mokG, mokP, mokA, mokE, mokL, mokS, true_and, D.isNon, D.cn, wipeL]
        rw [if_neg (by decide)]
        exact fin _ _ _ out _ _ t13 T13 (by rw [setRec_nil kx0 (by rw [hoe]; exact relE_no (by decide))]; exact e2) dp2 hpm2 da2 ho (by omega)
      · simp only [wpSs, wpS, wpE, wpEs, wpT, L3.w_add, L3.w_addS, L3.w_addT, L3.w_sub, L3.w_mul, L3.w_fdiv, L3.w_mod, L3.w_pow, L3.w_shl, L3.w_iadd, L3.w_isub, L3.w_neg, L3.w_lt, L3.w_le, L3.w_gt, L3.w_ge, L3.w_eq, L3.w_ne, L3.w_in, L3.w_nin, L3.w_tb, L3.w_ti, L3.w_tt, L3.w_ix0, L3.w_ix1, L3.w_ix2, L3.w_lenT, L3.w_lenK, L3.w_int, L3.w_intB, L3.w_max, L3.w_min, L3.w_rng1, L3.w_rng2, L3.w_one, L3.w_ixK, L3.w_itS, L3.w_lenS, L3.w_many, L3.w_eqS, L3.w_neS, L3.w_isN, L3.w_isNN, L3.w_itTup, List.getElem?_cons_zero, List.getElem?_cons_succ, List.set_cons_zero, List.set_cons_succ, Option.some.injEq, exists_eq_left', decide_eq_true_eq, Bool.false_eq_true, if_false, if_true, Bool.not_true, Bool.not_false, mokG, mokP, mokA, mokE, mokL, mokS, true_and, D.isNon, D.cn, wipeL]
        rw [if_neg (by decide)]
        exact fin _ _ _ out _ _ t13 T13 (by rw [setRec_nil kx0 (by rw [hoe]; exact relE_no (by decide))]; exact e2) dp2 hpm2 da2 ho (by omega)
      · obtain ⟨z, es, rfl⟩ := rec_hd hr
        simp only [wpSs, wpS, wpE, wpEs, wpT, L3.w_add, L3.w_addS, L3.w_addT, L3.w_sub, L3.w_mul, L3.w_fdiv, L3.w_mod, L3.w_pow, L3.w_shl, L3.w_iadd, L3.w_isub, L3.w_neg, L3.w_lt, L3.w_le, L3.w_gt, L3.w_ge, L3.w_eq, L3.w_ne, L3.w_in, L3.w_nin, L3.w_tb, L3.w_ti, L3.w_tt, L3.w_ix0, L3.w_ix1, L3.w_ix2, L3.w_lenT, L3.w_lenK, L3.w_int, L3.w_intB, L3.w_max, L3.w_min, L3.w_rng1, L3.w_rng2, L3.w_one, L3.w_ixK, L3.w_itS, L3.w_lenS, L3.w_many, L3.w_eqS, L3.w_neS, L3.w_isN, L3.w_isNN, L3.w_itTup, List.getElem?_cons_zero, List.getElem?_cons_succ, List.set_cons_zero, List.set_cons_succ, Option.some.injEq, exists_eq_left', decide_eq_true_eq, Bool.false_eq_true, if_false, if_true, Bool.not_true, Bool.not_false, mokG, mokP, mokA, mokE, mokL, mokS, true_and, D.isNon, D.cn, wipeL]
        refine ⟨one2 _ _, fun c4 hc4 => ?_⟩
        refine (w_inL mset_same).mpr ⟨⟨rfl, fun d hd => by simp only [List.mem_cons, List.not_mem_nil, or_false] at hd; rcases hd with rfl | rfl <;> rfl⟩, ?_⟩
        have t14 := t13.new (o := .lst [.str "fulfilled", .str "broken"]) hc4
        have T14 := T13.new (o := .lst [.str "fulfilled", .str "broken"]) hc4
        simp only [List.any_cons, List.any_nil, eqv_str, Bool.or_false, Bool.or_eq_true, decide_eq_true_eq]
        have h0 : hdS (.tup (.str z :: es)) = z := rfl
        by_cases e : "fulfilled" = z ∨ "broken" = z
        · rw [if_pos e]
          simp only [wpSs, wpS, wpE, wpEs, wpT, L3.w_add, L3.w_addS, L3.w_addT, L3.w_sub, L3.w_mul, L3.w_fdiv, L3.w_mod, L3.w_pow, L3.w_shl, L3.w_iadd, L3.w_isub, L3.w_neg, L3.w_lt, L3.w_le, L3.w_gt, L3.w_ge, L3.w_eq, L3.w_ne, L3.w_in, L3.w_nin, L3.w_tb, L3.w_ti, L3.w_tt, L3.w_ix0, L3.w_ix1, L3.w_ix2, L3.w_lenT, L3.w_lenK, L3.w_int, L3.w_intB, L3.w_max, L3.w_min, L3.w_rng1, L3.w_rng2, L3.w_one, L3.w_ixK, L3.w_itS, L3.w_lenS, L3.w_many, L3.w_eqS, L3.w_neS, L3.w_isN, L3.w_isNN, L3.w_itTup, List.getElem?_cons_zero, List.getElem?_cons_succ, List.set_cons_zero, List.set_cons_succ, Option.some.injEq, exists_eq_left', decide_eq_true_eq, Bool.false_eq_true, if_false, if_true, Bool.not_true, Bool.not_false, mokG, mokP, mokA, mokE, mokL, mokS, true_and, D.isNon, D.cn, wipeL, t14.ss.g_out, w_rcvL t14.ss.b_out]
          refine (w_ixTup).mpr ⟨_, rfl, one3 _ _ _, one2 _ _, ?_⟩
          refine ⟨w_rcvL t14.ss.b_out, (w_app t14.ss.b_out).mpr ⟨len100 (by show out.length ≤ _; omega), ?_⟩⟩
          have t15 := t14.wr (i := .out) (o := .lst (out ++ [.tup [.int a', .tup [.str "release_answer", .int c', pr w']]])) nofun (Fr.set rfl) mset_same trivial
          have T15 := T14.fr (O := At (ls .out)) (Fr.set (o := .lst (out ++ [.tup [.int a', .tup [.str "release_answer", .int c', pr w']]])) rfl) fun a e w => dj a w (.inr ⟨.out, nofun, e⟩)
          have rs := relE_sm (R := Rg S.vat) (V := 17) (K := 4) (r := .tup [.str "forwarded", .int a', .int c', pr w']) (.inr (.inr ⟨a', c', w', rfl, h1, h2, h3⟩)) (by decide) (by decide)
          refine fin _ _ _ (out ++ relE (.tup [.str "forwarded", .int a', .int c', pr w'])) _ _ t15 T15 ?_ dp2 hpm2 da2 (fun z hz => (List.mem_append.mp hz).elim (ho z) (rs.1 z)) (by rw [List.length_append]; have := rs.2; omega)
          unfold setRec
          rw [h0, if_pos (e.imp Eq.symm Eq.symm), hoe, ← e2]
          rfl
        · rw [if_neg e]
          refine fin _ _ _ out _ _ t14 T14 ?_ dp2 hpm2 da2 ho (by omega)
          unfold setRec
          rw [h0, if_neg (fun z => e (z.imp Eq.symm Eq.symm))]
          exact e2
  rintro σ M8 ⟨St, pm, an, out, x5, x6, x7, x8, x9, x10, x4, T, t, sm, dp, hpm, da, ho, hol, rfl⟩
  refine ⟨trivial, ?_⟩
  simp only [wpSs, wpS, wpE, wpEs, wpT, L3.w_add, L3.w_addS, L3.w_addT, L3.w_sub, L3.w_mul, L3.w_fdiv, L3.w_mod, L3.w_pow, L3.w_shl, L3.w_iadd, L3.w_isub, L3.w_neg, L3.w_lt, L3.w_le, L3.w_gt, L3.w_ge, L3.w_eq, L3.w_ne, L3.w_in, L3.w_nin, L3.w_tb, L3.w_ti, L3.w_tt, L3.w_ix0, L3.w_ix1, L3.w_ix2, L3.w_lenT, L3.w_lenK, L3.w_int, L3.w_intB, L3.w_max, L3.w_min, L3.w_rng1, L3.w_rng2, L3.w_one, L3.w_ixK, L3.w_itS, L3.w_lenS, L3.w_many, L3.w_eqS, L3.w_neS, L3.w_isN, L3.w_isNN, L3.w_itTup, List.getElem?_cons_zero, List.getElem?_cons_succ, List.set_cons_zero, List.set_cons_succ, Option.some.injEq, exists_eq_left', decide_eq_true_eq, Bool.false_eq_true, if_false, if_true, Bool.not_true, Bool.not_false, mokG, mokP, mokA, mokE, mokL, mokS, true_and, D.isNon, D.cn, wipeL]
  exact q _
end K25
end
section
set_option Elab.async false
set_option linter.all false
set_option maxRecDepth 100000
set_option maxHeartbeats 0
namespace K25
open L3 PySem.Spec PyProof.Rows L2
open PySem (Addr Str PyData)
theorem S0 : StP P0 md 0 p__law_draw := ⟨sc__law_draw, ir__law_draw, fun xs M Q X h => ln__law_draw (X := X) h, ok__law_draw, bd__law_draw⟩
theorem S1 : StP P0 md 1 p__law_same := ⟨sc__law_same, ir__law_same, fun xs M Q X h => ln__law_same (X := X) h, ok__law_same, bd__law_same⟩
theorem S2 : StP P0 md 2 p__law_due := ⟨sc__law_due, ir__law_due, fun xs M Q X h => ln__law_due (X := X) h, ok__law_due, bd__law_due⟩
theorem S3 : StP P0 md 3 p__law_told := ⟨sc__law_told, ir__law_told, fun xs M Q X h => ln__law_told (X := X) h, ok__law_told, bd__law_told⟩
theorem S4 : StP P0 md 4 p_record_at := ⟨sc_record_at, ir_record_at, fun xs M Q X h => ln_record_at (X := X) h, ok_record_at, bd_record_at⟩
theorem S5 : StP P0 md 5 p_put_out := ⟨sc_put_out, ir_put_out, fun xs M Q X h => ln_put_out (X := X) h, ok_put_out, bd_put_out⟩
theorem S6 : StP P0 md 6 p_return_answer := ⟨sc_return_answer, ir_return_answer, fun xs M Q X h => ln_return_answer (X := X) h, ok_return_answer, bd_return_answer⟩
theorem S7 : StP P0 md 7 p_put_record := ⟨sc_put_record, ir_put_record, fun xs M Q X h => ln_put_record (X := X) h, ok_put_record, bd_put_record⟩
theorem S8 : StP P0 md 8 p_set_record := ⟨sc_set_record, ir_set_record, fun xs M Q X h => ln_set_record (X := X) h, ok_set_record, bd_set_record⟩
theorem S9 : StP P0 md 9 p__law_atom := ⟨sc__law_atom, ir__law_atom, fun xs M Q X h => ln__law_atom (X := X) h, ok__law_atom, bd__law_atom⟩
theorem S10 : StP P0 md 10 p__law_value := ⟨sc__law_value, ir__law_value, fun xs M Q X h => ln__law_value (X := X) h, ok__law_value, bd__law_value⟩
theorem S11 : StP P0 md 11 p__law_settled := ⟨sc__law_settled, ir__law_settled, fun xs M Q X h => ln__law_settled (X := X) h, ok__law_settled, bd__law_settled⟩
theorem S12 : StP P0 md 12 p__law_weight := ⟨sc__law_weight, ir__law_weight, fun xs M Q X h => ln__law_weight (X := X) h, ok__law_weight, bd__law_weight⟩
theorem S13 : StP P0 md 13 p__law_outcome := ⟨sc__law_outcome, ir__law_outcome, fun xs M Q X h => ln__law_outcome (X := X) h, ok__law_outcome, bd__law_outcome⟩
theorem S14 : StP P0 md 14 p__law_load := ⟨sc__law_load, ir__law_load, fun xs M Q X h => ln__law_load (X := X) h, ok__law_load, bd__law_load⟩
theorem S15 : StP P0 md 15 p_Tables___init__ := ⟨sc_Tables___init__, ir_Tables___init__, fun xs M Q X h => ln_Tables___init__ (X := X) h, ok_Tables___init__, bd_Tables___init__⟩
theorem S16 : StP P0 md 16 p__law_all_far := ⟨sc__law_all_far, ir__law_all_far, fun xs M Q X h => ln__law_all_far (X := X) h, ok__law_all_far, bd__law_all_far⟩
theorem S17 : StP P0 md 17 p__law_begin := ⟨sc__law_begin, ir__law_begin, fun xs M Q X h => ln__law_begin (X := X) h, ok__law_begin, bd__law_begin⟩
theorem S18 : StP P0 md 18 p__law_table := ⟨sc__law_table, ir__law_table, fun xs M Q X h => ln__law_table (X := X) h, ok__law_table, bd__law_table⟩
theorem S19 : StP P0 md 19 p__law_cell := ⟨sc__law_cell, ir__law_cell, fun xs M Q X h => ln__law_cell (X := X) h, ok__law_cell, bd__law_cell⟩
theorem S20 : StP P0 md 20 p__law_digits := ⟨sc__law_digits, ir__law_digits, fun xs M Q X h => ln__law_digits (X := X) h, ok__law_digits, bd__law_digits⟩
theorem S21 : StP P0 md 21 p_law := ⟨sc_law, ir_law, fun xs M Q X h => ln_law (X := X) h, ok_law, bd_law⟩
theorem allS0 : AllD (StP P0 md) 0 md.ds := ⟨S0, S1, S2, S3, S4, S5, S6, S7, S8, S9, S10, S11, S12, S13, S14, S15, S16, S17, S18, S19, S20, S21, trivial⟩
end K25
open PySem PySem.W PySem.Calls PyProof.Rows
theorem PySem.Challenge.cw_vatlink_k25_records_settle_once_holds : PySem.Challenge.rw_vatlink_k25_records_settle_once.Holds := by
  w_on; o_law
  refine HandSHeadRun.head_any (r := OpenLaw.row PySem.Challenge.rw_vatlink_k25_records_settle_once) (q := view (OpenLaw.row PySem.Challenge.rw_vatlink_k25_records_settle_once).prog [29]) (H := L3.hookOf K25.md) (ob := L3.obOf K25.md) (M := 4000) (loose := K25.loose) (d := HandSHeadRun.topDef (OpenLaw.row PySem.Challenge.rw_vatlink_k25_records_settle_once).prog 29) (kwd := []) (L3.obOf_eq K25.md)
    (by kernel_rfl) (fun s => by kernel_rfl) K25.run (by kernel_rfl) (by kernel_rfl) (by kernel_rfl) (by rfl) (by first | assumption | decide +kernel) (by decide +kernel) ⟨rfl, rfl, rfl, rfl, rfl, by decide +kernel⟩ ?hw ?hc
  case hw => w_witness2
  case hc =>
    refine L3.hc3 (l := PySem.Challenge.rw_vatlink_k25_records_settle_once) (n := 63) (i := 21) (x := "_law_script") (P := K25.P0) (m := K25.md) (dl := K25.p_law) rfl (by decide) (by kernel_rfl) (by decide +kernel) rfl K25.allS0 rfl rfl rfl (by kernel_rfl) ⟨rfl, by decide, by decide⟩ fun ns hn Q X q => ⟨ns, rfl, rfl, q⟩
end

import PyProof.Rows.All
import KE.KDictKeyed
import PyProof.StrBlock2
import KE.SortData
import Wide.All
import OpenK.AllK
import Wide.FinOn
import HandS.ForMost
import HandS.TupAny
import KE.KeyNested
import PyProof.NeData
import HandS.WideBits
import HandS.TupMul
import PyProof.DictMoreH
import PyProof.DictTruth
import KE.KDictCopyH
import PyProof.ReprReads
import HandS.Style
import HandS.DictTup
import HandS.Conv
import KE.KDictSum
import HandS.Strs
import HandS.Replace
import HandS.More
import KE.DataFind
import PyProof.FString
import PyProof.FString4
import PyProof.BootLay
import KE.KSuper
import KE.KExcSuper
import KE.KExcPX
import HandS.Exc
import HandS.ExcCtx
import HandS.ExcInit
import HandS.ExcSuper
import HandS.HeadWalk
import HandS.ExcField
import HandS.ExcIs
import HandS.Text
import HandS.IsInst
import HandS.Rev
import HandS.TryOnly
import KE.KDictWalk
import HandS.Comp
import HandS.DictComp
import PyProof.DictDisplay
import HandS.Codes
import HandS.Ends
import KE.KStateDown
import HandS.Defaults
import HandS.Head0
import HandS.Head1
import HandS.Head2
import HandS.HeadEnd
import HandS.HeadHook1
import HandS.HeadHook2
import HandS.HeadHook3
import PySem.Challenge.RW_vatlink_k52_frames_read
import PyProof.Rows.RegRepr
import PyProof.ReprBulk
set_option Elab.async false
section
set_option autoImplicit false
set_option linter.all false
/-! L3: values with tuples by value, mutable objects at addresses, a small language, its weakest preconditions -/
namespace L3
open PySem

/-- a value: tuples by value; lists, dicts, instances by their address; kl: a list that nothing changes -/
inductive D where
  | non
  | bl (b : Bool)
  | int (i : Int)
  | str (x : Str)
  | tup (ds : List D)
  | ref (a : Addr)
  | kl (ds : List D)
  /-- a tuple of the module -/
  | kt (ds : List D)
  | exn (c : Nat) (ds : List D)
  deriving Inhabited

/-- a mutable object; dcT: a dict whose keys are tuples; lck, lkT: a dict while it is walked -/
inductive MO where
  | lst (ds : List D)
  | dct (kvs : List (D × D))
  | lck (kvs : List (D × D))
  | dcT (kvs : List (D × D))
  | lkT (kvs : List (D × D))
  | ins (c : Nat) (fs : List (Str × D))

abbrev Mp := Addr → Option MO
abbrev Lo := List (Option D)
abbrev Post := D → Mp → Prop
/-- a def's meaning: arguments, heap, what is wanted of the value, of an exception -/
abbrev Spec := List D → Mp → Post → Post → Prop

def mset (M : Mp) (a : Addr) (o : MO) : Mp := fun b => if b = a then some o else M b
theorem mset_same {M : Mp} {a : Addr} {o : MO} : mset M a o a = some o := if_pos rfl
theorem mset_ne {M : Mp} {a b : Addr} {o : MO} (h : b ≠ a) : mset M a o b = M b := if_neg h

mutual
def D.pure : D → Bool
  | .non | .bl _ | .int _ | .str _ => true
  | .tup ds => D.pures ds
  | .kt ds => D.pures ds
  | .ref _ | .exn _ _ | .kl _ => false
def D.pures : List D → Bool
  | [] => true
  | d :: ds => d.pure && D.pures ds
end
mutual
/-- a value up to == -/
def D.key : D → NestedKey
  | .non => .none
  | .bl b => .num (if b = true then 1 else 0)
  | .int i => .num i
  | .str x => .text x
  | .tup ds => .tup (D.keys ds)
  | .kt ds => .tup (D.keys ds)
  | .ref _ | .exn _ _ | .kl _ => .none
def D.keys : List D → List NestedKey
  | [] => []
  | d :: ds => d.key :: D.keys ds
end
mutual
/-- as data -/
def D.py : D → PyData
  | .non => .none
  | .bl b => .bool b
  | .int i => .int i
  | .str x => .str x
  | .tup ds => .tuple (D.pys ds)
  | .kt ds => .tuple (D.pys ds)
  | .ref _ | .exn _ _ | .kl _ => .none
def D.pys : List D → List PyData
  | [] => []
  | d :: ds => d.py :: D.pys ds
end
/-- a module's tuple as a tuple -/
def D.cn : D → D
  | .kt ds => .tup ds
  | d => d
def D.eqv (x y : D) : Bool := NestedKey.beq x.key y.key
/-- two values that == may be asked of: both pure, not too deep -/
def D.flat (x : D) : Bool := x.pure && decide (x.key.depth ≤ 8)
/-- a key of a dict: an int, a text, or a tuple of keys -/
def D.hk : D → Bool
  | .int _ => true
  | .str _ => true
  | .tup ds => D.pures ds && decide ((D.tup ds).key.depth ≤ 8)
  | _ => false
/-- a key that is an int or a text -/
def D.hk1 : D → Bool
  | .int _ => true
  | .str _ => true
  | _ => false
/-- a key that is a tuple of keys -/
def D.hkT : D → Bool
  | .tup ds => D.pures ds && decide ((D.tup ds).key.depth ≤ 8)
  | .kt ds => D.pures ds && decide ((D.kt ds).key.depth ≤ 8)
  | _ => false
def D.isT : D → Bool
  | .tup _ => true
  | _ => false
def dget (kvs : List (D × D)) (k : D) : Option D := (kvs.find? fun p => p.1.eqv k).map (·.2)
def dhas (kvs : List (D × D)) (k : D) : Bool := kvs.any fun p => p.1.eqv k
def dput (kvs : List (D × D)) (k v : D) : List (D × D) :=
  if dhas kvs k then kvs.map fun p => if p.1.eqv k then (p.1, v) else p else kvs ++ [(k, v)]
def ddel (kvs : List (D × D)) (k : D) : List (D × D) := kvs.filter fun p => !p.1.eqv k
/-- a dict, its pairs, whether the key is of its kind -/
def MO.dk : MO → D → Option (List (D × D))
  | .dct kvs, k => if k.hk1 = true then some kvs else none
  | .lck kvs, k => if k.hk1 = true then some kvs else none
  | .dcT kvs, k => if k.hkT = true then some kvs else none
  | .lkT kvs, k => if k.hkT = true then some kvs else none
  | _, _ => none
/-! sorted -/
def D.dep (x : D) : Nat := x.py.depth
/-- data that can be compared place by place -/
def SortOk (xs : List D) : Prop := (∀ d ∈ xs, d.pure = true ∧ d.py.depth ≤ 20) ∧ PySem.W.AllAlike (xs.map D.py) ∧ PySem.W.Sortable (xs.map D.py)
def srtD (xs : List D) : List D := xs.mergeSort fun a b => !PySem.W.dataLt b.py a.py
/-- pairs whose keys can be compared, no two the same -/
def PairsOk (kvs : List (D × D)) : Prop := (∀ p ∈ kvs, p.1.pure = true ∧ p.1.py.depth ≤ 20 ∧ p.1 ≠ .non ∧ p.2.pure = true ∧ p.2.py.depth ≤ 20 ∧ PySem.W.alike p.2.py p.2.py = true) ∧ (∀ p ∈ kvs, ∀ q ∈ kvs, PySem.W.alike p.1.py q.1.py = true) ∧ kvs.Pairwise fun p q => PyData.eqv p.1.py q.1.py = false ∧ PyData.eqv q.1.py p.1.py = false
def srtP (kvs : List (D × D)) : List (D × D) := kvs.mergeSort fun p q => !PySem.W.dataLt q.1.py p.1.py
def pairD (p : D × D) : D := .tup [p.1, p.2]

/-! what a value reads as data through the heap -/
mutual
inductive Deep (M : Mp) : D → PyData → Prop where
  | non : Deep M .non .none
  | bl (b : Bool) : Deep M (.bl b) (.bool b)
  | int (i : Int) : Deep M (.int i) (.int i)
  | str (x : Str) : Deep M (.str x) (.str x)
  | tup {ds : List D} {ps : List PyData} : Deeps M ds ps → Deep M (.tup ds) (.tuple ps)
  | kt {ds : List D} {ps : List PyData} : Deeps M ds ps → Deep M (.kt ds) (.tuple ps)
  | lst {a : Addr} {ds : List D} {ps : List PyData} : M a = some (.lst ds) → Deeps M ds ps → Deep M (.ref a) (.list ps)
  | dct {a : Addr} {kvs : List (D × D)} {ps : List (PyData × PyData)} : M a = some (.dct kvs) → Deeps M (kvs.map (·.1)) (ps.map (·.1)) → Deeps M (kvs.map (·.2)) (ps.map (·.2)) → Deep M (.ref a) (.dict ps)
inductive Deeps (M : Mp) : List D → List PyData → Prop where
  | nil : Deeps M [] []
  | cons {d : D} {ds : List D} {p : PyData} {ps : List PyData} : Deep M d p → Deeps M ds ps → Deeps M (d :: ds) (p :: ps)
end

/-! the language -/
inductive BOp where
  | add | sub | mul | fdiv | mod | pow | shl | shr
inductive UOp where
  | neg
inductive COp where
  | eq | ne | lt | le | gt | ge | isIn | notIn | is | isNot
/-- built-in functions and types, called -/
inductive Blt where
  | len | int | str | repr | max | min | abs | sum | list | tuple | sorted | range
/-- a built-in type, for isinstance -/
inductive Ty where
  | int | bool | str | list | tuple
/-- methods of built-in types -/
inductive Mth where
  | append | extend | pop | index | get | items | values | clear | remove | insert | join | split | keys
/-- what is walked -/
inductive ItK where
  | plain | range | enumerate | reversed | items | values | zip

inductive Tg where
  | one (i : Nat)
  | many (l : List Nat)

def Tg.sl : Tg → List Nat
  | .one i => [i]
  | .many l => l
/-- which sequence is made of what is walked -/
inductive SeqF where
  | list | tuple | sorted | sum | dict

mutual
inductive E where
  | var (i : Nat)
  | int (i : Int)
  | str (x : Str)
  | bl (b : Bool)
  | non
  | con (d : D)
  | bin (o : BOp) (a b : E)
  | un (o : UOp) (a : E)
  | cmp (o : COp) (a b : E)
  | cmp2 (o o' : COp) (a b c : E)
  | and (a b : E)
  | or (a b : E)
  | not (a : E)
  | ite (c : T) (a b : E)
  | tup (es : Es)
  | lst (es : Es)
  | dct (es : Es)
  | call (f : Nat) (es : Es)
  | blt (f : Blt) (es : Es)
  | seq (f : SeqF) (k : ItK) (es : Es)
  | inst (a : E) (t : Ty)
  | mth (o : E) (m : Mth) (es : Es)
  | umth (o : E) (m : Str) (c f : Nat) (es : Es)
  | make (c f : Nat) (es : Es)
  | ix (a b : E)
  | sl (a : E) (lo hi : E)
  | fld (a : E) (f : Str)
  | comp (own : List Nat) (elt : E) (t : Tg) (k : ItK) (es : Es) (c : T)
  | dcomp (own : List Nat) (kx vx : E) (t : Tg) (k : ItK) (es : Es) (c : T)
  | gen (all : Bool) (own : List Nat) (elt : E) (t : Tg) (k : ItK) (es : Es)
  | disp (tbl : Nat) (key : E) (es : Es)
  | cidx (ds : List D) (es : Es)
  | bad
inductive Es where
  | nil
  | cons (e : E) (es : Es)
inductive T where
  | tt
  | val (e : E)
  | and (a b : T)
  | or (a b : T)
  | not (a : T)
end

/-- what isinstance asks of an exception -/
inductive HK where
  | own (c : Nat)
  | bin (x : Str)
mutual
/-- a handler's expression -/
inductive HE where
  | fld (f : Str)
  | inst (k : HK)
  | int (i : Int)
  | str (x : Str)
  | bl (b : Bool)
  | non
  | tup (es : HEs)
inductive HEs where
  | nil
  | cons (e : HE) (es : HEs)
end
mutual
/-- a handler's statement -/
inductive HS where
  | ret (e : HE)
  | retL (es : HEs)
  | ite (c : HE) (a b : HSs)
  | bad
inductive HSs where
  | nil
  | cons (s : HS) (ss : HSs)
end

mutual
inductive S where
  | expr (e : E)
  | ret (e : E)
  | retN
  | set (t : Tg) (e : E)
  | setIx (a b e : E)
  | setFld (a : E) (f : Str) (e : E)
  | aug (i : Nat) (o : BOp) (e : E)
  | augFld (a : E) (f : Str) (o : BOp) (e : E)
  | delIx (a b : E)
  | ite (c : T) (a b : Ss)
  | wh (c : T) (b : Ss)
  | for (t : Tg) (k : ItK) (es : Es) (b : Ss)
  | brk
  | cnt
  | pass
  | raise (c : Nat) (es : Es)
  /-- one clause that takes class c, bound to slot i; a suite of its own small language -/
  | tryE (b : Ss) (c i : Nat) (h : HSs)
  | bad
inductive Ss where
  | nil
  | cons (s : S) (ss : Ss)
end

/-! ### what a program is -/
structure Pr where
  sp : Nat → Spec
  /-- what a class's instances may have as fields -/
  fl : Nat → Str → Bool
  /-- the def that a table gives for a text -/
  tab : Nat → Str → Option Nat
  /-- an exception class's fields -/
  exf : Nat → List Str := fun _ => []
  /-- whether a clause of the second class takes an exception of the first one -/
  sub : Nat → Nat → Option Bool := fun _ _ => none
  /-- what isinstance tells of an exception of this class -/
  isx : Nat → HK → Option Bool := fun _ _ => none

/-! ### exceptions -/
/-- what a message can tell -/
def D.fmt : D → Prop
  | .int i => i.natAbs < 2 ^ 64
  | .str x => x.length ≤ 1000
  | _ => False
/-- an exception's fields with their names -/
def exnF : List Str → List D → List D
  | f :: fs, d :: ds => .tup [.str f, d] :: exnF fs ds
  | _, _ => []
def exnG (f : Str) : List D → Option D
  | .tup [.str g, d] :: r => if g = f then some d else exnG f r
  | _ => none

/-! ### values -/
def truthy : D → Mp → (Bool → Prop) → Prop
  | .non, _, k => k false
  | .bl b, _, k => k b
  | .int i, _, k => k (i != 0)
  | .str x, _, k => x.length ≤ sizeLine ∧ k (x.length != 0)
  | .tup ds, _, k => k (!ds.isEmpty)
  | .ref a, M, k => match M a with
    | some (.lst ds) => k (!ds.isEmpty)
    | some (.dct kvs) => k (!kvs.isEmpty)
    | some (.dcT kvs) => k (!kvs.isEmpty)
    | _ => False
  | .exn _ _, _, _ => False
  | .kl _, _, _ => False
  | .kt _, _, _ => False

/-- a factor below 2 ^ 64 -/
def MulOk (i j : Int) : Prop := (-(2 ^ 64) < i ∧ i < 2 ^ 64) ∨ (-(2 ^ 64) < j ∧ j < 2 ^ 64)
def wpNew (M : Mp) (o : MO) (Q : Post) : Prop := ∀ p, M p = none → Q (.ref p) (mset M p o)
def wpBin : BOp → D → D → Mp → Post → Prop
  | .add, .int i, .int j, M, Q => Q (.int (i + j)) M
  | .add, .str x, .str y, M, Q => x.length + y.length ≤ sizeLine ∧ Q (.str (x ++ y)) M
  | .add, .tup xs, .tup ys, M, Q => xs.length + ys.length ≤ sizeLine ∧ Q (.tup (xs ++ ys)) M
  | .add, .ref a, .ref b, M, Q => match M a, M b with
    | some (.lst xs), some (.lst ys) => xs.length + ys.length ≤ sizeLine ∧ wpNew M (.lst (xs ++ ys)) Q
    | _, _ => False
  | .sub, .int i, .int j, M, Q => Q (.int (i - j)) M
  | .mul, .int i, .int j, M, Q => MulOk i j ∧ Q (.int (i * j)) M
  | .mul, .ref a, .int n, M, Q => match M a with
    | some (.lst xs) => ((-(2 ^ 62) ≤ n ∧ n < 2 ^ 62) ∧ xs.length * n.toNat ≤ sizeLine) ∧ wpNew M (.lst (List.replicate n.toNat xs).flatten) Q
    | _ => False
  | .mul, .str x, .int n, M, Q => PySem.MulOk x n ∧ Q (.str (Txt.mul x n)) M
  | .mul, .tup xs, .int n, M, Q => (xs ≠ [] ∧ 0 ≤ n ∧ n ≤ 1000 ∧ xs.length ≤ 1000) ∧ Q (.tup (List.replicate n.toNat xs).flatten) M
  | .fdiv, .int i, .int j, M, Q => (0 < j ∧ j < 1073741824) ∧ Q (.int (i / j)) M
  | .mod, .int i, .int j, M, Q => 0 < j ∧ Q (.int (i % j)) M
  | .pow, .int i, .int j, M, Q => (0 ≤ j ∧ j ≤ 1000000 ∧ i.natAbs < 2 ^ 64) ∧ Q (.int (i ^ j.toNat)) M
  | .shl, .int i, .int j, M, Q => (0 ≤ j ∧ j ≤ 1000000 ∧ i.natAbs < 2 ^ 1000) ∧ Q (.int (i * 2 ^ j.toNat)) M
  | .shr, .int i, .int j, M, Q => 0 ≤ j ∧ Q (.int (i / 2 ^ j.toNat)) M
  | _, _, _, _, _ => False
/-- x op= y: of no list, which would be changed in place -/
def wpInp (o : BOp) (x y : D) (M : Mp) (Q : Post) : Prop := match o, x, y with
  | .add, .int i, .int j => wpBin .add (.int i) (.int j) M Q
  | .add, .str i, .str j => wpBin .add (.str i) (.str j) M Q
  | .sub, .int i, .int j => wpBin .sub (.int i) (.int j) M Q
  | .mul, .int i, .int j => wpBin .mul (.int i) (.int j) M Q
  | .fdiv, .int i, .int j => wpBin .fdiv (.int i) (.int j) M Q
  | _, _, _ => False
def wpUn : UOp → D → Mp → Post → Prop
  | .neg, .int i, M, Q => Q (.int (-i)) M
  | _, _, _, _ => False
def wpEq (x y : D) (M : Mp) (k : Bool → Prop) : Prop := match x, y with
  | .ref a, .ref b => ∃ p q, Deep M (.ref a) p ∧ Deep M (.ref b) q ∧ SeqAt.shaped p = true ∧ SeqAt.shaped q = true ∧ k (PyData.eqv p q)
  | x, y => (x.flat = true ∧ y.flat = true) ∧ k (x.eqv y)
def wpIn (x y : D) (M : Mp) (k : Bool → Prop) : Prop := match y with
  | .tup ds => (x.flat = true ∧ (∀ d ∈ ds, d.flat = true)) ∧ k (ds.any fun z => z.eqv x)
  | .kt ds => (x.flat = true ∧ (∀ d ∈ ds, d.flat = true)) ∧ k (ds.any fun z => z.eqv x)
  | .str y => match x with
    | .str x => x.length = 1 ∧ k (decide (x.cps.getD 0 0 ∈ y.cps.toList))
    | _ => False
  | .ref a => match M a with
    | some (.lst ds) => (x.flat = true ∧ (∀ d ∈ ds, d.flat = true)) ∧ k (ds.any fun z => z.eqv x)
    | some (.dct kvs) => x.hk1 = true ∧ k (dhas kvs x)
    | some (.lck kvs) => x.hk1 = true ∧ k (dhas kvs x)
    | some (.dcT kvs) => x.hkT = true ∧ k (dhas kvs x)
    | some (.lkT kvs) => x.hkT = true ∧ k (dhas kvs x)
    | _ => False
  | _ => False
def D.isNon : D → Bool
  | .non => true
  | _ => false
def wpCmp (o : COp) (x y : D) (M : Mp) (k : Bool → Prop) : Prop := match o with
  | .eq => wpEq x y M k
  | .ne => wpEq x y M fun b => k (!b)
  | .isIn => wpIn x y M k
  | .notIn => wpIn x y M fun b => k (!b)
  | .lt => match x, y with
    | .int i, .int j => k (decide (i < j))
    | _, _ => False
  | .le => match x, y with
    | .int i, .int j => k (decide (i ≤ j))
    | _, _ => False
  | .gt => match x, y with
    | .int i, .int j => k (decide (j < i))
    | _, _ => False
  | .ge => match x, y with
    | .int i, .int j => k (decide (j ≤ i))
    | _, _ => False
  | .is => match x, y with
    | .bl a, .bl b => k (a == b)
    | x, .non => k x.isNon
    | _, _ => False
  | .isNot => match x, y with
    | .bl a, .bl b => k (!(a == b))
    | x, .non => k (!x.isNon)
    | _, _ => False
/-- an item by its place, from the end where it is below nought -/
def atD (ds : List D) (i : Int) : Option D := if 0 ≤ i then ds[i.toNat]? else if 0 ≤ i + ds.length then ds[(i + ds.length).toNat]? else none
def wpIx (x y : D) (M : Mp) (Q : Post) : Prop := match x with
  | .kl ds => match y with
    | .int i => ∃ d, atD ds i = some d ∧ Q d M
    | _ => False
  | .kt ds => match y with
    | .int i => ∃ d, atD ds i = some d ∧ Q d M
    | _ => False
  | .tup ds => match y with
    | .int i => ∃ d, atD ds i = some d ∧ Q d M
    | _ => False
  | .str z => match y with
    | .int i => ∃ c, z.length ≤ sizeLine ∧ atD (z.cps.toList.map fun c => .str ⟨#[c]⟩) i = some c ∧ Q c M
    | _ => False
  | .ref a => match M a with
    | some (.lst ds) => (match y with
      | .int i => ∃ d, atD ds i = some d ∧ Q d M
      | _ => False)
    | some (.dct kvs) => y.hk1 = true ∧ ∃ d, dget kvs y = some d ∧ Q d M
    | some (.lck kvs) => y.hk1 = true ∧ ∃ d, dget kvs y = some d ∧ Q d M
    | some (.dcT kvs) => y.hkT = true ∧ ∃ d, dget kvs y = some d ∧ Q d M
    | some (.lkT kvs) => y.hkT = true ∧ ∃ d, dget kvs y = some d ∧ Q d M
    | _ => False
  | _ => False
/-- a slice's end in a sequence of n items -/
def sEnd (n : Nat) (i : Int) : Nat := if 0 ≤ i then min i.toNat n else (i + n).toNat
def sLo (n : Nat) : D → Nat
  | .int i => sEnd n i
  | _ => 0
def sHi (n : Nat) : D → Nat
  | .int i => sEnd n i
  | _ => n
def D.ion : D → Bool
  | .int _ => true
  | .non => true
  | _ => false
def cut {α : Type} (ds : List α) (lo hi : D) : List α := (ds.drop (sLo ds.length lo)).take (sHi ds.length hi - sLo ds.length lo)
def wpSl (x lo hi : D) (M : Mp) (Q : Post) : Prop := (lo.ion = true ∧ hi.ion = true) ∧ match x with
  | .tup ds => Q (.tup (cut ds lo hi)) M
  | .str z => z.length ≤ sizeLine ∧ Q (.str ⟨(cut z.cps.toList lo hi).toArray⟩) M
  | .ref a => match M a with
    | some (.lst ds) => wpNew M (.lst (cut ds lo hi)) Q
    | _ => False
  | _ => False
def posOf (f : Str) : List Str → List D → Option D
  | g :: gs, d :: ds => if g = f then some d else posOf f gs ds
  | _, _ => none
def wpFld (P : Pr) (x : D) (f : Str) (M : Mp) (Q : Post) : Prop := match x with
  | .ref a => match M a with
    | some (.ins c fs) => P.fl c f = true ∧ ∃ v, fs.lookup f = some v ∧ Q v M
    | _ => False
  | .exn c ds => ∃ v, posOf f (P.exf c) ds = some v ∧ Q v M
  | _ => False

/-! ### what is walked: the items, what must stay, the heap of the walk, what is undone behind it -/
def dRange (lo hi : Int) : List D := (List.range (hi - lo).toNat).map fun (k : Nat) => .int (lo + (k : Int))
def small62 (i : Int) : Prop := -(2 ^ 62) ≤ i ∧ i < 2 ^ 62
abbrev ItR := List D → (Mp → Prop) → Mp → (Mp → Mp) → Prop
/-- a walked dict is free again -/
def MO.unl : MO → Option MO
  | .lck kvs => some (.dct kvs)
  | .lkT kvs => some (.dcT kvs)
  | _ => none
def unlk (a : Addr) (M : Mp) : Mp := match (M a).bind MO.unl with
  | some o => mset M a o
  | none => M
def wpItD (f : List (D × D) → List D) (a : Addr) (kvs : List (D × D)) (M : Mp) (R : ItR) : Prop :=
  R (f kvs) (fun M' => M' a = some (.lck kvs)) (mset M a (.lck kvs)) (unlk a)
def wpItT (f : List (D × D) → List D) (a : Addr) (kvs : List (D × D)) (M : Mp) (R : ItR) : Prop :=
  R (f kvs) (fun M' => M' a = some (.lkT kvs)) (mset M a (.lkT kvs)) (unlk a)
def enumD (ds : List D) : List D := ds.zipIdx.map fun p => .tup [.int p.2, p.1]
def wpIt (k : ItK) (ds : List D) (M : Mp) (R : ItR) : Prop := match k, ds with
  | .plain, [.tup xs] => R xs (fun _ => True) M id
  | .plain, [.kl xs] => R xs (fun _ => True) M id
  | .plain, [.kt xs] => R xs (fun _ => True) M id
  | .plain, [.str z] => z.length ≤ sizeLine ∧ R (z.cps.toList.map fun c => .str ⟨#[c]⟩) (fun _ => True) M id
  | .plain, [.ref a] => (match M a with
    | some (.lst xs) => R xs (fun M' => M' a = some (.lst xs)) M id
    | some (.dct kvs) => wpItD (·.map (·.1)) a kvs M R
    | some (.dcT kvs) => wpItT (·.map (·.1)) a kvs M R
    | _ => False)
  | .range, [.int n] => small62 n ∧ R (dRange 0 n) (fun _ => True) M id
  | .range, [.int i, .int j] => (small62 i ∧ small62 j) ∧ R (dRange i j) (fun _ => True) M id
  | .enumerate, [.ref a] => (match M a with
    | some (.lst xs) => R (enumD xs) (fun M' => M' a = some (.lst xs)) M id
    | _ => False)
  | .reversed, [.ref a] => (match M a with
    | some (.lst xs) => R xs.reverse (fun M' => M' a = some (.lst xs)) M id
    | _ => False)
  | .items, [.ref a] => (match M a with
    | some (.dct kvs) => wpItD (·.map fun p => .tup [p.1, p.2]) a kvs M R
    | some (.dcT kvs) => wpItT (·.map fun p => .tup [p.1, p.2]) a kvs M R
    | _ => False)
  | .values, [.ref a] => (match M a with
    | some (.dct kvs) => wpItD (·.map (·.2)) a kvs M R
    | some (.dcT kvs) => wpItT (·.map (·.2)) a kvs M R
    | _ => False)
  | .zip, [.ref a, .ref b] => (match M a, M b with
    | some (.lst xs), some (.lst ys) => R ((xs.zip ys).map fun p => .tup [p.1, p.2]) (fun M' => M' a = some (.lst xs) ∧ M' b = some (.lst ys)) M id
    | _, _ => False)
  | _, _ => False

/-! ### targets -/
def setMany : List Nat → List D → Lo → Option Lo
  | [], [], σ => some σ
  | i :: is, d :: ds, σ => setMany is ds (σ.set i (some d))
  | _, _, _ => none
def wpTg (t : Tg) (d : D) (σ : Lo) (M : Mp) (k : Lo → Prop) : Prop := match t with
  | .one i => k (σ.set i (some d))
  | .many l => match d with
    | .tup ds => ∃ σ', setMany l ds σ = some σ' ∧ k σ'
    | .ref a => (match M a with
      | some (.lst ds) => ∃ σ', setMany l ds σ = some σ' ∧ k σ'
      | _ => False)
    | _ => False
def wipeL : List Nat → Lo → Lo
  | [], σ => σ
  | i :: is, σ => wipeL is (σ.set i none)

/-! ### built-ins -/
def allS : List D → Option (List Str)
  | [] => some []
  | .str x :: r => (allS r).map (x :: ·)
  | _ => none
def allI : List D → Option (List Int)
  | [] => some []
  | .int x :: r => (allI r).map (x :: ·)
  | _ => none
/-- the type of a value that is told -/
def tyName (d : D) (M : Mp) : Option String := match d with
  | .non => some "NoneType"
  | .bl _ => some "bool"
  | .int _ => some "int"
  | .str _ => some "str"
  | .tup _ => some "tuple"
  | .kt _ => some "tuple"
  | .kl _ => some "list"
  | .ref a => (match M a with
    | some (.lst _) => some "list"
    | some (.dct _) => some "dict"
    | _ => none)
  | .exn _ _ => none
def isTyN (n : String) : Ty → Bool
  | .int => n == "int" || n == "bool"
  | .bool => n == "bool"
  | .str => n == "str"
  | .list => n == "list"
  | .tuple => n == "tuple"
def wpBlt (f : Blt) (ds : List D) (M : Mp) (Q : Post) : Prop := match f, ds with
  | .len, [.tup xs] => Q (.int xs.length) M
  | .len, [.kl xs] => Q (.int xs.length) M
  | .len, [.kt xs] => Q (.int xs.length) M
  | .len, [.str x] => x.length ≤ sizeLine ∧ Q (.int x.length) M
  | .len, [.ref a] => (match M a with
    | some (.lst xs) => Q (.int xs.length) M
    | some (.dct kvs) => Q (.int kvs.length) M
    | some (.dcT kvs) => Q (.int kvs.length) M
    | _ => False)
  | .int, [.int i] => Q (.int i) M
  | .int, [.bl b] => Q (.int (if b = true then 1 else 0)) M
  | .repr, [d] => ∃ p, Deep M d p ∧ p.showable = true ∧ p.shown.length ≤ sizeLine ∧ p.depth ≤ 40 ∧ Q (.str p.shown) M
  | .max, [.int i, .int j] => Q (.int (if j > i then j else i)) M
  | .min, [.int i, .int j] => Q (.int (if j < i then j else i)) M
  | .abs, [.int i] => Q (.int (if i < 0 then -i else i)) M
  | .str, [.int i] => i.natAbs.log2 < 1920 ∧ Q (.str (toString i)) M
  | .list, [.tup xs] => wpNew M (.lst xs) Q
  | .list, [.kt xs] => wpNew M (.lst xs) Q
  | .list, [.ref a] => (match M a with
    | some (.lst xs) => wpNew M (.lst xs) Q
    | some (.dct kvs) => wpNew M (.lst (kvs.map (·.1))) Q
    | some (.dcT kvs) => wpNew M (.lst (kvs.map (·.1))) Q
    | _ => False)
  | .sorted, [.ref a] => (match M a with
    | some (.lst xs) => SortOk xs ∧ wpNew M (.lst (srtD xs)) Q
    | some (.dcT kvs) => SortOk (kvs.map (·.1)) ∧ wpNew M (.lst (srtD (kvs.map (·.1)))) Q
    | _ => False)
  | .sum, [.ref a] => (match M a with
    | some (.lst xs) => ∃ ns : List Int, xs = ns.map .int ∧ Q (.int ns.sum) M
    | _ => False)
  | .tuple, [.tup xs] => Q (.tup xs) M
  | .tuple, [.kt xs] => Q (.kt xs) M
  | .tuple, [.ref a] => (match M a with
    | some (.lst xs) => Q (.tup xs) M
    | _ => False)
  | _, _ => False
/-- a built-in over what is walked -/
def wpSeq (f : SeqF) (k : ItK) (ds : List D) (M : Mp) (Q : Post) : Prop := match f, k, ds with
  | .list, .items, [.ref a] => (match M a with
    | some (.dct kvs) => wpNew M (.lst (kvs.map pairD)) Q
    | some (.dcT kvs) => wpNew M (.lst (kvs.map pairD)) Q
    | _ => False)
  | .sorted, .items, [.ref a] => (match M a with
    | some (.dct kvs) => PairsOk kvs ∧ wpNew M (.lst ((srtP kvs).map pairD)) Q
    | some (.dcT kvs) => PairsOk kvs ∧ wpNew M (.lst ((srtP kvs).map pairD)) Q
    | _ => False)
  | .list, .range, [.int n] => small62 n ∧ wpNew M (.lst (dRange 0 n)) Q
  | .list, .range, [.int i, .int j] => (small62 i ∧ small62 j) ∧ wpNew M (.lst (dRange i j)) Q
  | _, _, _ => False
def wpExt (ds : List D) (a : Addr) (y : D) (M : Mp) (Q : Post) : Prop := match y with
  | .ref b => (match M b with
    | some (.lst ys) => ds.length + ys.length ≤ sizeLine ∧ Q .non (mset M a (.lst (ds ++ ys)))
    | _ => False)
  | _ => False
inductive RK where
  | lst | dct | str | tup
/-- what a receiver is when the arguments have not come -/
def rcv (x : D) (M : Mp) : Option RK := match x with
  | .str _ => some .str
  | .kt _ => some .tup
  | .ref a => (match M a with
    | some (.lst _) => some .lst
    | some (.dct _) => some .dct
    | some (.lck _) => some .dct
    | some (.dcT _) => some .dct
    | some (.lkT _) => some .dct
    | _ => none)
  | _ => none
/-- which methods are told -/
def mok : Option RK → Mth → Bool
  | some .lst, .append => true
  | some .lst, .extend => true
  | some .lst, .pop => true
  | some .lst, .remove => true
  | some .lst, .clear => true
  | some .dct, .get => true
  | some .dct, .pop => true
  | some .dct, .clear => true
  | some .str, .index => true
  | some .str, .join => true
  | _, _ => false
/-- d.get, d.pop -/
def wpDm (m : Mth) (a : Addr) (o : MO) (args : List D) (M : Mp) (Q : Post) : Prop := match m, args with
  | .get, [k] => ∃ kvs, o.dk k = some kvs ∧ Q ((dget kvs k).getD .non) M
  | .get, [k, x] => ∃ kvs, o.dk k = some kvs ∧ Q ((dget kvs k).getD x) M
  | .pop, [k] => (match o with
    | .dct kvs => k.hk1 = true ∧ ∃ d, dget kvs k = some d ∧ Q d (mset M a (.dct (ddel kvs k)))
    | .dcT kvs => k.hkT = true ∧ ∃ d, dget kvs k = some d ∧ Q d (mset M a (.dcT (ddel kvs k)))
    | _ => False)
  | .pop, [k, x] => (match o with
    | .dct kvs => k.hk1 = true ∧ (match dget kvs k with
      | some d => Q d (mset M a (.dct (ddel kvs k)))
      | none => Q x M)
    | .dcT kvs => k.hkT = true ∧ (match dget kvs k with
      | some d => Q d (mset M a (.dcT (ddel kvs k)))
      | none => Q x M)
    | _ => False)
  | .clear, [] => (match o with
    | .dct _ => Q .non (mset M a (.dct []))
    | .dcT _ => Q .non (mset M a (.dcT []))
    | _ => False)
  | _, _ => False
def wpMth (m : Mth) (o : D) (args : List D) (M : Mp) (Q : Post) : Prop := match o with
  | .ref a => (match M a with
    | some (.lst ds) => (match m, args with
      | .append, [d] => ds.length < sizeLine ∧ Q .non (mset M a (.lst (ds ++ [d])))
      | .extend, [y] => wpExt ds a y M Q
      | .pop, [] => ∃ ys d, ds = ys ++ [d] ∧ Q d (mset M a (.lst ys))
      | .pop, [.int i] => ∃ d, 0 ≤ i ∧ ds[i.toNat]? = some d ∧ Q d (mset M a (.lst (ds.eraseIdx i.toNat)))
      | .remove, [d] => (d.flat = true ∧ ∀ z ∈ ds, z.flat = true) ∧ ∃ i, (ds.findIdx? fun z => z.eqv d) = some i ∧ Q .non (mset M a (.lst (ds.eraseIdx i)))
      | .clear, [] => Q .non (mset M a (.lst []))
      | .index, [d] => (d.flat = true ∧ ∀ z ∈ ds, z.flat = true) ∧ ∃ i, (ds.findIdx? fun z => z.eqv d) = some i ∧ Q (.int i) M
      | _, _ => False)
    | some (.dct kvs) => wpDm m a (.dct kvs) args M Q
    | some (.lck kvs) => wpDm m a (.lck kvs) args M Q
    | some (.dcT kvs) => wpDm m a (.dcT kvs) args M Q
    | some (.lkT kvs) => wpDm m a (.lkT kvs) args M Q
    | _ => False)
  | .str x => (match m, args with
    | .join, [.ref a] => (match M a with
      | some (.lst ds) => ∃ ys, allS ds = some ys ∧ (ys.map (·.length)).sum + ys.length * x.length ≤ 16777216 ∧ Q (.str (Txt.join x ys)) M
      | _ => False)
    | .index, [.str y] => ∃ (i : Nat) (r : List Nat), Builtin.Str.occurrences x y 0 x.length 1 = i :: r ∧ Q (.int i) M
    | .split, [.str y] => (y.length ≠ 0 ∧ x.length + 2 ≤ sizeLine) ∧ wpNew M (.lst ((Txt.split x y).map .str)) Q
    | _, _ => False)
  | .kt ds => (match m, args with
    | .index, [d] => ∃ (ys : List Str) (z : Str) (j : Nat), ds = ys.map .str ∧ d = .str z ∧ ys[j]? = some z ∧ (∀ m, m < j → ys[m]? ≠ some z) ∧ Q (.int j) M
    | _, _ => False)
  | _ => False
/-- o[i] = v -/
def wpSetIx (o i v : D) (M : Mp) (k : Mp → Prop) : Prop := match o with
  | .ref a => (match M a with
    | some (.lst ds) => (match i with
      | .int i => (0 ≤ i ∧ i < ds.length) ∧ k (mset M a (.lst (ds.set i.toNat v)))
      | _ => False)
    | some (.dct kvs) => (i.hk1 = true ∧ kvs.length < sizeLine) ∧ k (mset M a (.dct (dput kvs i v)))
    | some (.dcT kvs) => (i.hkT = true ∧ kvs.length < sizeLine) ∧ k (mset M a (.dcT (dput kvs i v)))
    | _ => False)
  | _ => False
def wpDel (o i : D) (M : Mp) (k : Mp → Prop) : Prop := match o with
  | .ref a => (match M a with
    | some (.dct kvs) => (i.hk1 = true ∧ dhas kvs i = true) ∧ k (mset M a (.dct (ddel kvs i)))
    | some (.dcT kvs) => (i.hkT = true ∧ dhas kvs i = true) ∧ k (mset M a (.dcT (ddel kvs i)))
    | _ => False)
  | _ => False
def putFd (f : Str) (v : D) : List (Str × D) → List (Str × D)
  | [] => [(f, v)]
  | (g, x) :: r => if g = f then (g, v) :: r else (g, x) :: putFd f v r
def wpSetFld (P : Pr) (o : D) (f : Str) (v : D) (M : Mp) (k : Mp → Prop) : Prop := match o with
  | .ref a => (match M a with
    | some (.ins c fs) => (P.fl c f = true ∧ fs.length < 900) ∧ k (mset M a (.ins c (putFd f v fs)))
    | _ => False)
  | _ => False
/-- a dict display's pairs, put in one behind the other -/
def pairsD : List D → Option (List (D × D))
  | [] => some []
  | k :: v :: r => (pairsD r).map ((k, v) :: ·)
  | _ => none
def wpDisp (ds : List D) (M : Mp) (Q : Post) : Prop := (ds = [] ∧ (wpNew M (.dct []) Q ∨ wpNew M (.dcT []) Q)) ∨ ∃ kvs, pairsD ds = some kvs ∧ kvs ≠ [] ∧ wpNew M (.dct kvs) Q

/-! ### loops -/
/-- a comprehension's items: body tells for each whether it comes in -/
def compL (body : D → Mp → (Option D → Mp → Prop) → Prop) (G : Mp → Prop) : List D → List D → Mp → (List D → Mp → Prop) → Prop
  | [], acc, M, Q => G M ∧ Q acc M
  | x :: xs, acc, M, Q => G M ∧ body x M fun r M1 => match r with
    | none => compL body G xs acc M1 Q
    | some d => acc.length < sizeLine ∧ compL body G xs (acc ++ [d]) M1 Q
/-- .. of a dict comprehension; tk: are its keys tuples -/
def hkB : Bool → D → Bool
  | true, d => d.hkT
  | false, d => d.hk1
def dctB : Bool → List (D × D) → MO
  | true, kvs => .dcT kvs
  | false, kvs => .dct kvs
def dcompL (tk : Bool) (body : D → Mp → (Option (D × D) → Mp → Prop) → Prop) (G : Mp → Prop) : List D → List (D × D) → Mp → (List (D × D) → Mp → Prop) → Prop
  | [], acc, M, Q => G M ∧ Q acc M
  | x :: xs, acc, M, Q => G M ∧ body x M fun r M1 => match r with
    | none => dcompL tk body G xs acc M1 Q
    | some p => (hkB tk p.1 = true ∧ acc.length < sizeLine) ∧ dcompL tk body G xs (dput acc p.1 p.2) M1 Q
/-- any, all -/
def genL (all : Bool) (body : D → Mp → (Bool → Mp → Prop) → Prop) (G : Mp → Prop) : List D → Mp → (Bool → Mp → Prop) → Prop
  | [], M, Q => G M ∧ Q all M
  | x :: xs, M, Q => G M ∧ body x M fun b M1 => if b = all then genL all body G xs M1 Q else Q (!all) M1

structure Ends where
  nx : Lo → Mp → Prop
  rt : Post
  bk : Lo → Mp → Prop := fun _ _ => False
  ct : Lo → Mp → Prop := fun _ _ => False
def forL (t : Tg) (body : Ends → Lo → Mp → Prop) (G : Mp → Prop) (K : Ends) : List D → Lo → Mp → Prop
  | [], σ, M => G M ∧ K.nx σ M
  | x :: xs, σ, M => G M ∧ wpTg t x σ M fun σ1 => body ⟨forL t body G K xs, K.rt, K.nx, forL t body G K xs⟩ σ1 M
def whL (c : Lo → Mp → (Bool → Mp → Prop) → Prop) (body : Ends → Lo → Mp → Prop) (D : Ends) : Nat → Lo → Mp → Prop
  | 0, _, _ => False
  | n + 1, σ, M => c σ M fun b M1 => if b = true then body ⟨whL c body D n, D.rt, D.nx, whL c body D n⟩ σ M1 else D.nx σ M1

/-! ### weakest preconditions; X: what is wanted of an exception -/
abbrev Xp := D → Mp → Prop
abbrev Xs := D → Lo → Mp → Prop
def xat (X : Xs) (σ : Lo) : Xp := fun x M => X x σ M
mutual
def wpE (P : Pr) (X : Xp) : E → Lo → Mp → Post → Prop
  | .var i, σ, M, Q => ∃ d, σ[i]? = some (some d) ∧ Q d M
  | .int i, _, M, Q => Q (.int i) M
  | .str x, _, M, Q => Q (.str x) M
  | .bl b, _, M, Q => Q (.bl b) M
  | .non, _, M, Q => Q .non M
  | .con d, _, M, Q => Q d.cn M
  | .bin o a b, σ, M, Q => wpE P X a σ M fun x M1 => wpE P X b σ M1 fun y M2 => wpBin o x y M2 Q
  | .un o a, σ, M, Q => wpE P X a σ M fun x M1 => wpUn o x M1 Q
  | .cmp o a b, σ, M, Q => wpE P X a σ M fun x M1 => wpE P X b σ M1 fun y M2 => wpCmp o x y M2 fun r => Q (.bl r) M2
  | .cmp2 o o' a b c, σ, M, Q => wpE P X a σ M fun x M1 => wpE P X b σ M1 fun y M2 => wpCmp o x y M2 fun r =>
      if r = true then wpE P X c σ M2 fun z M3 => wpCmp o' y z M3 fun r' => Q (.bl r') M3 else Q (.bl false) M2
  | .and a b, σ, M, Q => wpE P X a σ M fun x M1 => truthy x M1 fun r => if r = true then wpE P X b σ M1 Q else Q x M1
  | .or a b, σ, M, Q => wpE P X a σ M fun x M1 => truthy x M1 fun r => if r = true then Q x M1 else wpE P X b σ M1 Q
  | .not a, σ, M, Q => wpE P X a σ M fun x M1 => truthy x M1 fun r => Q (.bl (!r)) M1
  | .ite c a b, σ, M, Q => wpT P X c σ M fun r M1 => if r = true then wpE P X a σ M1 Q else wpE P X b σ M1 Q
  | .tup es, σ, M, Q => wpEs P X es σ M fun ds M1 => ds.length ≤ sizeLine ∧ Q (.tup ds) M1
  | .lst es, σ, M, Q => wpEs P X es σ M fun ds M1 => ds.length ≤ sizeLine ∧ wpNew M1 (.lst ds) Q
  | .dct es, σ, M, Q => wpEs P X es σ M fun ds M1 => wpDisp ds M1 Q
  | .call f es, σ, M, Q => wpEs P X es σ M fun ds M1 => P.sp f ds M1 Q X
  | .blt f es, σ, M, Q => wpEs P X es σ M fun ds M1 => wpBlt f ds M1 Q
  | .seq f k es, σ, M, Q => wpEs P X es σ M fun ds M1 => wpSeq f k ds M1 Q
  | .inst a t, σ, M, Q => wpE P X a σ M fun x M1 => ∃ n, tyName x M1 = some n ∧ Q (.bl (isTyN n t)) M1
  | .mth o m es, σ, M, Q => wpE P X o σ M fun x M1 => mok (rcv x M1) m = true ∧ wpEs P X es σ M1 fun ds M2 => rcv x M2 = rcv x M1 ∧ wpMth m x ds M2 Q
  | .umth o m c f es, σ, M, Q => wpE P X o σ M fun x M1 => (∃ a fs, x = .ref a ∧ M1 a = some (.ins c fs) ∧ fs.lookup m = none) ∧ wpEs P X es σ M1 fun ds M2 => P.sp f (x :: ds) M2 Q X
  | .make c f es, σ, M, Q => wpEs P X es σ M fun ds M1 => ∀ p, M1 p = none → P.sp f (.ref p :: ds) (mset M1 p (.ins c [])) (fun d M2 => d = .non ∧ Q (.ref p) M2) X
  | .ix a b, σ, M, Q => wpE P X a σ M fun x M1 => wpE P X b σ M1 fun y M2 => wpIx x y M2 Q
  | .sl a lo hi, σ, M, Q => wpE P X a σ M fun x M1 => wpE P X lo σ M1 fun l M2 => wpE P X hi σ M2 fun h M3 => wpSl x l h M3 Q
  | .fld a f, σ, M, Q => wpE P X a σ M fun x M1 => wpFld P x f M1 Q
  | .comp own elt t k es c, σ, M, Q => wpEs P X es σ M fun ds M1 => wpIt k ds M1 fun xs G M2 fin =>
      compL (fun x M kk => wpTg t x (wipeL own σ) M fun σ1 => wpT P (fun _ _ => False) c σ1 M fun r M3 => if r = true then wpE P (fun _ _ => False) elt σ1 M3 fun d M4 => kk (some d) M4 else kk none M3) G xs [] M2
        fun acc M5 => wpNew (fin M5) (.lst acc) Q
  | .dcomp own kx vx t k es c, σ, M, Q => ∃ tk : Bool, wpEs P X es σ M fun ds M1 => wpIt k ds M1 fun xs G M2 fin =>
      dcompL tk (fun x M kk => wpTg t x (wipeL own σ) M fun σ1 => wpT P (fun _ _ => False) c σ1 M fun r M3 => if r = true then wpE P (fun _ _ => False) kx σ1 M3 fun d M4 => wpE P (fun _ _ => False) vx σ1 M4 fun d' M5 => kk (some (d, d')) M5 else kk none M3) G xs [] M2
        fun acc M5 => wpNew (fin M5) (dctB tk acc) Q
  | .gen all own elt t k es, σ, M, Q => wpEs P X es σ M fun ds M1 => wpIt k ds M1 fun xs G M2 fin =>
      genL all (fun x M kk => wpTg t x (wipeL own σ) M fun σ1 => wpE P (fun _ _ => False) elt σ1 M fun d M4 => truthy d M4 fun b => kk b M4) G xs M2 fun b M5 => Q (.bl b) (fin M5)
  | .disp tbl key es, σ, M, Q => wpE P X key σ M fun x M1 => match x with
    | .str z => ∃ f, P.tab tbl z = some f ∧ wpEs P X es σ M1 fun ds M2 => P.sp f ds M2 Q X
    | _ => False
  | .cidx ds es, σ, M, Q => wpEs P X es σ M fun args M1 => ∃ (ys : List Str) (z : Str) (j : Nat), args = [.str z] ∧ ds = ys.map .str ∧ ys[j]? = some z ∧ (∀ m, m < j → ys[m]? ≠ some z) ∧ Q (.int j) M1
  | .bad, _, _, _ => False
def wpEs (P : Pr) (X : Xp) : Es → Lo → Mp → (List D → Mp → Prop) → Prop
  | .nil, _, M, Q => Q [] M
  | .cons e es, σ, M, Q => wpE P X e σ M fun d M1 => wpEs P X es σ M1 fun ds M2 => Q (d :: ds) M2
def wpT (P : Pr) (X : Xp) : T → Lo → Mp → (Bool → Mp → Prop) → Prop
  | .tt, _, M, k => k true M
  | .val e, σ, M, k => wpE P X e σ M fun x M1 => truthy x M1 fun r => k r M1
  | .and a b, σ, M, k => wpT P X a σ M fun r M1 => if r = true then wpT P X b σ M1 k else k false M1
  | .or a b, σ, M, k => wpT P X a σ M fun r M1 => if r = true then k true M1 else wpT P X b σ M1 k
  | .not a, σ, M, k => wpT P X a σ M fun r M1 => k (!r) M1
end
/-! handlers -/
mutual
def hev (P : Pr) (c : Nat) (fs : List D) : HE → Option D
  | .fld f => if (P.exf c).contains f = true then exnG f fs else none
  | .inst k => (P.isx c k).map .bl
  | .int i => some (.int i)
  | .str x => some (.str x)
  | .bl b => some (.bl b)
  | .non => some .non
  | .tup es => match hevs P c fs es with
    | some ds => if ds.length ≤ 30 then some (.tup ds) else none
    | none => none
def hevs (P : Pr) (c : Nat) (fs : List D) : HEs → Option (List D)
  | .nil => some []
  | .cons e es => match hev P c fs e, hevs P c fs es with
    | some d, some ds => some (d :: ds)
    | _, _ => none
end
mutual
def wpH (P : Pr) (c : Nat) (fs : List D) : HS → Ends → Lo → Mp → Prop
  | .ret e, D, _, M => ∃ d, hev P c fs e = some d ∧ D.rt d M
  | .retL es, D, _, M => ∃ ds, hevs P c fs es = some ds ∧ ds.length ≤ 30 ∧ wpNew M (.lst ds) D.rt
  | .ite e a b, D, σ, M => ∃ r, hev P c fs e = some (.bl r) ∧ if r = true then wpHs P c fs a D σ M else wpHs P c fs b D σ M
  | .bad, _, _, _ => False
def wpHs (P : Pr) (c : Nat) (fs : List D) : HSs → Ends → Lo → Mp → Prop
  | .nil, D, σ, M => D.nx σ M
  | .cons s ss, D, σ, M => wpH P c fs s { D with nx := fun σ1 M1 => wpHs P c fs ss D σ1 M1 } σ M
end
mutual
def wpS (P : Pr) : S → (D → Lo → Mp → Prop) → Ends → Lo → Mp → Prop
  | .expr e, X, D, σ, M => wpE P (xat X σ) e σ M fun _ M1 => D.nx σ M1
  | .retN, _, D, _, M => D.rt .non M
  | .ret e, X, D, σ, M => wpE P (xat X σ) e σ M D.rt
  | .set t e, X, D, σ, M => wpE P (xat X σ) e σ M fun d M1 => wpTg t d σ M1 fun σ1 => D.nx σ1 M1
  | .setIx a b e, X, D, σ, M => wpE P (xat X σ) e σ M fun v M1 => wpE P (xat X σ) a σ M1 fun o M2 => wpE P (xat X σ) b σ M2 fun i M3 => wpSetIx o i v M3 (D.nx σ)
  | .setFld a f e, X, D, σ, M => wpE P (xat X σ) e σ M fun v M1 => wpE P (xat X σ) a σ M1 fun o M2 => wpSetFld P o f v M2 (D.nx σ)
  | .aug i o e, X, D, σ, M => ∃ d, σ[i]? = some (some d) ∧ wpE P (xat X σ) e σ M fun y M1 => wpInp o d y M1 fun z M2 => D.nx (σ.set i (some z)) M2
  | .augFld a f o e, X, D, σ, M => wpE P (xat X σ) a σ M fun x M1 => wpFld P x f M1 fun v M1 => wpE P (xat X σ) e σ M1 fun y M2 => wpInp o v y M2 fun z M3 => wpSetFld P x f z M3 (D.nx σ)
  | .delIx a b, X, D, σ, M => wpE P (xat X σ) a σ M fun o M1 => wpE P (xat X σ) b σ M1 fun i M2 => wpDel o i M2 (D.nx σ)
  | .ite c a b, X, D, σ, M => wpT P (xat X σ) c σ M fun r M1 => if r = true then wpSs P a X D σ M1 else wpSs P b X D σ M1
  | .wh c b, X, D, σ, M => ∃ n, whL (fun σ M k => wpT P (xat X σ) c σ M k) (fun D σ M => wpSs P b X D σ M) D n σ M
  | .for t k es b, X, D, σ, M => wpEs P (xat X σ) es σ M fun ds M1 => wpIt k ds M1 fun xs G M2 fin =>
      forL t (fun D σ M => wpSs P b (fun x σ M => fin = id ∧ X x σ M) D σ M) G ⟨fun σ M => D.nx σ (fin M), fun d M => D.rt d (fin M), fun σ M => D.nx σ (fin M), fun _ _ => False⟩ xs σ M2
  | .brk, _, D, σ, M => D.bk σ M
  | .cnt, _, D, σ, M => D.ct σ M
  | .pass, _, D, σ, M => D.nx σ M
  | .raise c es, X, _, σ, M => wpEs P (xat X σ) es σ M fun ds M1 => (ds.length = (P.exf c).length ∧ ∀ d ∈ ds, d.fmt) ∧ X (.exn c (exnF (P.exf c) ds)) σ M1
  | .tryE b c i h, X, D, σ, M => wpSs P b (fun x σ1 M1 => match x with
    | .exn c' ds => ∃ r, P.sub c' c = some r ∧ if r = true then wpHs P c' ds h D (σ1.set i none) M1 else X x σ1 M1
    | _ => False) D σ M
  | .bad, _, _, _, _ => False
def wpSs (P : Pr) : Ss → (D → Lo → Mp → Prop) → Ends → Lo → Mp → Prop
  | .nil, _, D, σ, M => D.nx σ M
  | .cons s ss, X, D, σ, M => wpS P s X { D with nx := fun σ1 M1 => wpSs P ss X D σ1 M1 } σ M
end
/-- a def keeps its promise: n names, a body -/
def startL (n : Nat) (ds : List D) : Lo := ds.map some ++ List.replicate (n - ds.length) none
def Keeps (P : Pr) (sp : Spec) (n : Nat) (body : Ss) : Prop :=
  ∀ ds M Q X, sp ds M Q X → wpSs P body (fun x _ M => X x M) ⟨fun _ M => Q .non M, Q, fun _ _ => False, fun _ _ => False⟩ (startL n ds) M
end L3
end
section
set_option autoImplicit false
set_option linter.all false
set_option maxRecDepth 100000
/-! L3: from the text's syntax to the small language -/
namespace L3
open PySem

/-- what a name of the module is -/
inductive GR where
  | fn (i : Nat)
  | cls (c f : Nat)
  | mth (c f : Nat)
  | con (d : D)
  | blt
  | tab (t : Nat)
  | exc (c : Nat)
structure CC where
  N : List Str
  sc : Scope
  gl : List (Str × GR)
  /-- cells are its own -/
  cs : Bool := true
  /-- no exception is caught here -/
  nt : Bool := false
/-- the scope of a block as it runs -/
def relC (scope sc : Scope) : Scope :=
  { scope with names := scope.names.map fun (n, k) => if (k == .free && sc.kind == .function && sc.names.lookup n == some .cell) then (n, .cell) else (n, k) }
def ownC (N : List Str) (scope : Scope) : List (Str × Nat) := scope.names.filterMap fun y => if y.2 == .local || y.2 == .cell then (N.findIdx? (· == y.1)).map fun i => (y.1, i) else none
def blkB (N : List Str) (sc scope : Scope) : Bool :=
  decide (scope.kind = .function) && scope.names.all (fun y => decide (scope.names.lookup y.1 = some y.2)) && scope.names.all (fun y => !decide (y.2 = .free) || (decide (sc.names.lookup y.1 = some .cell) || decide (sc.names.lookup y.1 = some .free))) &&
    scope.names.all fun y => !(decide (y.2 = .local) || decide (y.2 = .cell)) || (((ownC N scope).map (·.1)).contains y.1 || !N.contains y.1)
/-- a method's key among the names -/
def dotted (m : Str) : Str := ⟨#[46] ++ m.cps⟩
def CC.slot (cc : CC) (x : Str) : Option Nat :=
  if x == "__debug__" || x == "__classdict__" then none else
  match cc.sc.names.lookup x with
  | some .local => cc.N.findIdx? (· == x)
  | some .cell => cc.N.findIdx? (· == x)
  | some .free => cc.N.findIdx? (· == x)
  | _ => none
/-- a slot that may be stored to -/
def CC.slotW (cc : CC) (x : Str) : Option Nat :=
  match cc.sc.names.lookup x with
  | some .local => cc.N.findIdx? (· == x)
  | some .cell => if cc.cs then cc.N.findIdx? (· == x) else none
  | _ => none
def CC.glob (cc : CC) (x : Str) : Option GR :=
  if x == "__debug__" || x == "__name__" then none else
  match cc.sc.names.lookup x with
  | some .globalImplicit => cc.gl.lookup x
  | _ => none
def cBop : Operator → Option BOp
  | .Add => some .add
  | .Sub => some .sub
  | .Mult => some .mul
  | .FloorDiv => some .fdiv
  | .Mod => some .mod
  | .Pow => some .pow
  | .LShift => some .shl
  | .RShift => some .shr
  | _ => none
def cCop : CmpOp → COp
  | .Eq => .eq
  | .NotEq => .ne
  | .Lt => .lt
  | .LtE => .le
  | .Gt => .gt
  | .GtE => .ge
  | .In => .isIn
  | .NotIn => .notIn
  | .Is => .is
  | .IsNot => .isNot
def cBlt (x : Str) : Option Blt :=
  if x == "len" then some .len
  else if x == "int" then some .int
  else if x == "repr" then some .repr
  else if x == "max" then some .max
  else if x == "min" then some .min
  else if x == "abs" then some .abs
  else if x == "str" then some .str
  else if x == "list" then some .list
  else if x == "tuple" then some .tuple
  else if x == "sum" then some .sum
  else if x == "sorted" then some .sorted
  else none
def cSeq (x : Str) : Option SeqF :=
  if x == "list" then some .list
  else if x == "tuple" then some .tuple
  else if x == "sorted" then some .sorted
  else if x == "sum" then some .sum
  else none
def cMth (x : Str) : Option Mth :=
  if x == "append" then some .append
  else if x == "extend" then some .extend
  else if x == "pop" then some .pop
  else if x == "index" then some .index
  else if x == "get" then some .get
  else if x == "join" then some .join
  else if x == "split" then some .split
  else if x == "remove" then some .remove
  else if x == "clear" then some .clear
  else none
def notStar : Expr → Bool
  | .Starred .. => false
  | _ => true
def notSlice : Expr → Bool
  | .Slice .. => false
  | _ => true
/-- a target -/
def cTgs (cc : CC) : List Expr → Option (List Nat)
  | [] => some []
  | .Name x _ :: r => (match cc.slotW x, cTgs cc r with
    | some i, some l => some (i :: l)
    | _, _ => none)
  | _ => none
def cTg (cc : CC) (t : Expr) : Option Tg := match t with
  | .Name x _ => (match cc.slotW x with
    | some i => some (.one i)
    | none => none)
  | .Tuple es _ _ => (match cTgs cc es with
    | some l => some (.many l)
    | none => none)
  | _ => none
def isTupE : Expr → Bool
  | .Tuple .. => true
  | _ => false
/-- pairs come as tuples of their own: a tuple must take them -/
def itOk (k : ItK) (tg : Expr) : Bool := match k with
  | .items => isTupE tg
  | .enumerate => isTupE tg
  | _ => true
/-- no call without arguments of a name: super() stands apart -/
def noSuper : Expr → Bool
  | .Call (.Name ..) [] [] _ => false
  | _ => true
/-- an expression whose test is its value's truth -/
def plainTest : Expr → Bool
  | .Name .. => true
  | .Call .. => true
  | .Subscript .. => true
  | .Attribute .. => true
  | .Constant .. => true
  | _ => false
def noComp : Expr → Bool
  | .ListComp .. => false
  | .SetComp .. => false
  | .DictComp .. => false
  | _ => true
def cTy (x : Str) : Option Ty :=
  if x == "int" then some .int
  else if x == "bool" then some .bool
  else if x == "str" then some .str
  else if x == "list" then some .list
  else if x == "tuple" then some .tuple
  else none
/-- a comprehension put into a local name of its line -/
def swapC (cc : CC) (x : Str) (px : Pos) : Expr → Bool
  | .ListComp _ [⟨_, _, _, 0⟩] scope pos => decide (cc.sc.names.lookup x = some .local) && (px.line == pos.line) && !(scope.names.any fun (n, k) => n == x && (k == .local || k == .cell))
  | _ => false
def swapD (cc : CC) (x : Str) (px : Pos) : Expr → Bool
  | .DictComp _ _ [⟨_, _, _, 0⟩] scope pos => decide (cc.sc.names.lookup x = some .local) && (px.line == pos.line) && !(scope.names.any fun (n, k) => n == x && (k == .local || k == .cell))
  | _ => false
def noSet : Expr → Bool
  | .Set .. => false
  | _ => true
/-- how many pairs a display may have -/
def dispN (n : Nat) : Bool := decide (n ≤ 15) || (decide (18 ≤ n) && decide (n ≤ 32))
def keyTxts : List (Option Expr) → List Str
  | some (.Constant (.str x) _ _) :: ks => x :: keyTxts ks
  | _ :: ks => keyTxts ks
  | [] => []
mutual
def cE : Nat → CC → Expr → Option E
  | 0, _, _ => none
  | n + 1, cc, e => match e with
    | .Name x _ => (match cc.slot x with
      | some i => some (.var i)
      | none => match cc.glob x with
        | some (.con d) => some (.con d)
        | _ => none)
    | .Constant c _ _ => (match c with
      | .int i => some (.int i)
      | .bool b => some (.bl b)
      | .str x => some (.str x)
      | .none => some .non
      | _ => none)
    | .BinOp a o b _ => (match cBop o, cE n cc a, cE n cc b with
      | some o', some a', some b' => some (.bin o' a' b')
      | _, _, _ => none)
    | .UnaryOp .Not a _ => (match cE n cc a with
      | some a' => some (.not a')
      | _ => none)
    | .UnaryOp .USub a _ => (match cE n cc a with
      | some a' => some (.un .neg a')
      | _ => none)
    | .Compare a [o] [b] _ => if behindInMarks o b then none else (match cE n cc a, cE n cc b with
      | some a', some b' => some (.cmp (cCop o) a' b')
      | _, _ => none)
    | .Compare a [o, o'] [b, c] _ => if lastMarks [o, o'] [b, c] then none else (match cE n cc a, cE n cc b, cE n cc c with
      | some a', some b', some c' => some (.cmp2 (cCop o) (cCop o') a' b' c')
      | _, _, _ => none)
    | .BoolOp _ [a] _ => cE n cc a
    | .BoolOp .And (a :: b :: r) p => (match cE n cc a, cE n cc (.BoolOp .And (b :: r) p) with
      | some a', some b' => some (.and a' b')
      | _, _ => none)
    | .BoolOp .Or (a :: b :: r) p => (match cE n cc a, cE n cc (.BoolOp .Or (b :: r) p) with
      | some a', some b' => some (.or a' b')
      | _, _ => none)
    | .IfExp c a b _ => (match cT n cc c, cE n cc a, cE n cc b with
      | some c', some a', some b' => some (.ite c' a' b')
      | _, _, _ => none)
    | .Tuple es _ _ => (match cEs n cc es with
      | some es' => some (.tup es')
      | _ => none)
    | .List es _ => (match cEs n cc es with
      | some es' => some (.lst es')
      | _ => none)
    | .Subscript a (.Slice lo hi none _) _ => (match cE n cc a, cP n cc lo, cP n cc hi with
      | some a', some l', some h' => some (.sl a' l' h')
      | _, _, _ => none)
    | .Subscript a b _ => if notSlice b then (match cE n cc a, cE n cc b with
      | some a', some b' => some (.ix a' b')
      | _, _ => none) else none
    | .Dict [] [] _ => some (.dct .nil)
    | .Dict (k :: ks) (v :: vs) _ => if decide (ks.length = vs.length) && dispN (ks.length + 1) && decide (keyTxts (k :: ks)).Nodup then (match cPs n cc (k :: ks) (v :: vs) with
      | some es' => some (.dct es')
      | none => none) else none
    | .Attribute o f _ => if noSuper o then (match cE n cc o with
      | some o' => some (.fld o' f)
      | none => none) else none
    | .ListComp ex [⟨tg, it, ifs, 0⟩] scope _ => if blkB cc.N cc.sc scope then (match cI n cc it, cTg { cc with sc := relC scope cc.sc, cs := false } tg, cIf n { cc with sc := relC scope cc.sc, cs := false } ifs, cE n { cc with sc := relC scope cc.sc, cs := false } ex with
      | some (k, es'), some t', some c', some ex' => if itOk k tg && t'.sl.all (fun i => ((ownC cc.N scope).map (·.2)).contains i) then some (.comp ((ownC cc.N scope).map (·.2)) ex' t' k es' c') else none
      | _, _, _, _ => none) else none
    | .DictComp kx vx [⟨tg, it, ifs, 0⟩] scope _ => if blkB cc.N cc.sc scope then (match cI n cc it, cTg { cc with sc := relC scope cc.sc, cs := false } tg, cIf n { cc with sc := relC scope cc.sc, cs := false } ifs, cE n { cc with sc := relC scope cc.sc, cs := false } kx, cE n { cc with sc := relC scope cc.sc, cs := false } vx with
      | some (k, es'), some t', some c', some kx', some vx' => if itOk k tg && t'.sl.all (fun i => ((ownC cc.N scope).map (·.2)).contains i) then some (.dcomp ((ownC cc.N scope).map (·.2)) kx' vx' t' k es' c') else none
      | _, _, _, _, _ => none) else none
    | .Call (.Name "list" _) [.Call (.Attribute o "items" ap) [] [] cp] [] _ => if noSuper o && (ap.endLine == cp.line) then (match cc.glob "list", cE n cc o with
      | some .blt, some o' => some (.seq .list .items (.cons o' .nil))
      | _, _ => none) else none
    | .Call (.Name "sorted" _) [.Call (.Attribute o "items" ap) [] [] cp] [] _ => if noSuper o && (ap.endLine == cp.line) then (match cc.glob "sorted", cE n cc o with
      | some .blt, some o' => some (.seq .sorted .items (.cons o' .nil))
      | _, _ => none) else none
    | .Call (.Name "isinstance" _) [a, .Name T _] [] _ => if notStar a then (match cc.glob "isinstance", cc.glob T, cTy T, cE n cc a with
      | some .blt, some .blt, some t, some a' => some (.inst a' t)
      | _, _, _, _ => none) else none
    | .Call (.Name f _) es [] _ => (match cc.glob f, cEs n cc es with
      | some (.fn i), some es' => some (.call i es')
      | some (.cls c i), some es' => some (.make c i es')
      | some .blt, some es' => (match cBlt f with
        | some b => (match es with
          | [] => none
          | _ => some (.blt b es'))
        | none => none)
      | _, _ => none)
    | .Call (.Subscript (.Name x _) key _) (e :: es) [] _ => if notSlice key then (match cc.glob x, cE n cc key, cEs n cc (e :: es) with
      | some (.tab t), some k', some es' => some (.disp t k' es')
      | _, _, _ => none) else none
    | .Call (.Attribute (.Name x np) m ap) es [] cp => if m == "index" && (ap.endLine == cp.line) && decide (es.length = 1) then (match cc.glob x, cEs n cc es with
      | some (.con (.kt ds)), some es' => some (.cidx ds es')
      | some (.con (.str z)), some es' => some (.mth (.con (.str z)) .index es')
      | _, _ => none) else (match cMth m, cE n cc (.Name x np), cEs n cc es with
      | some m', some o', some es' => if (ap.endLine == cp.line) && decide (es.length < 25) then some (.mth o' m' es') else none
      | none, some o', some es' => if (ap.endLine == cp.line) && decide (es.length < 25) then (match cc.gl.lookup (dotted m) with
        | some (.mth c f) => some (.umth o' m c f es')
        | _ => none) else none
      | _, _, _ => none)
    | .Call (.Attribute o m ap) es [] cp => if noSuper o && (ap.endLine == cp.line) && decide (es.length < 25) then (match cMth m, cE n cc o, cEs n cc es with
      | some m', some o', some es' => some (.mth o' m' es')
      | none, some o', some es' => (match cc.gl.lookup (dotted m) with
        | some (.mth c f) => some (.umth o' m c f es')
        | _ => none)
      | _, _, _ => none) else none
    | _ => none
def cEs : Nat → CC → List Expr → Option Es
  | 0, _, _ => none
  | _ + 1, _, [] => some .nil
  | n + 1, cc, e :: es => if notStar e then (match cE n cc e, cEs n cc es with
    | some e', some es' => some (.cons e' es')
    | _, _ => none) else none
/-- a display's pairs, keys written texts -/
def cPs : Nat → CC → List (Option Expr) → List Expr → Option Es
  | 0, _, _, _ => none
  | _ + 1, _, [], [] => some .nil
  | n + 1, cc, some (.Constant (.str x) _ _) :: ks, v :: vs => (match cE n cc v, cPs n cc ks vs with
    | some v', some es' => some (.cons (.str x) (.cons v' es'))
    | _, _ => none)
  | _ + 1, _, _, _ => none
/-- a slice's part -/
def cP : Nat → CC → Option Expr → Option E
  | 0, _, _ => none
  | _ + 1, _, none => some .non
  | n + 1, cc, some e => cE n cc e
def cT : Nat → CC → Expr → Option T
  | 0, _, _ => none
  | n + 1, cc, e => match e with
    | .BoolOp _ [a] _ => cT n cc a
    | .BoolOp .And (a :: b :: r) p => (match cT n cc a, cT n cc (.BoolOp .And (b :: r) p) with
      | some a', some b' => some (.and a' b')
      | _, _ => none)
    | .BoolOp .Or (a :: b :: r) p => (match cT n cc a, cT n cc (.BoolOp .Or (b :: r) p) with
      | some a', some b' => some (.or a' b')
      | _, _ => none)
    | .UnaryOp .Not a _ => (match cT n cc a with
      | some a' => some (.not a')
      | _ => none)
    | .Compare a [o] [b] _ => if behindInMarks o b then none else (match cE n cc a, cE n cc b with
      | some a', some b' => some (.val (.cmp (cCop o) a' b'))
      | _, _ => none)
    | .Compare a [o, o'] [b, c] _ => if lastMarks [o, o'] [b, c] then none else (match cE n cc a, cE n cc b, cE n cc c with
      | some a', some b', some c' => some (.val (.cmp2 (cCop o) (cCop o') a' b' c'))
      | _, _, _ => none)
    | e => if plainTest e then (match cE n cc e with
      | some e' => some (.val e')
      | _ => none) else none
/-- the tests of a comprehension -/
def cIf : Nat → CC → List Expr → Option T
  | 0, _, _ => none
  | _ + 1, _, [] => some .tt
  | n + 1, cc, [c] => cT n cc c
  | _, _, _ => none
/-- what a loop walks -/
def cI : Nat → CC → Expr → Option (ItK × Es)
  | 0, _, _ => none
  | n + 1, cc, e => match e with
  | .Call (.Attribute o m ap) [] [] cp => if m == "items" && noSuper o && (ap.endLine == cp.line) then (match cE n cc o with
    | some o' => some (.items, .cons o' .nil)
    | none => none) else if m == "values" && noSuper o && (ap.endLine == cp.line) then (match cE n cc o with
    | some o' => some (.values, .cons o' .nil)
    | none => none) else none
  | .Call (.Name f _) es [] _ => (match cc.glob f, cEs n cc es with
    | some .blt, some es' => if f == "range" then (match es with
        | [_] => some (.range, es')
        | [_, _] => some (.range, es')
        | _ => none)
      else if f == "reversed" then (match es with
        | [_] => some (.reversed, es')
        | _ => none)
      else if f == "enumerate" then (match es with
        | [_] => some (.enumerate, es')
        | _ => none)
      else if f == "sorted" then (match es with
        | [_] => some (.plain, .cons (.blt .sorted es') .nil)
        | _ => none)
      else if f == "list" then (match es with
        | [_] => some (.plain, .cons (.blt .list es') .nil)
        | _ => none)
      else none
    | some (.fn i), some es' => some (.plain, .cons (.call i es') .nil)
    | _, _ => none)
  | e => (match cE n cc e with
    | some e' => if noSet e then some (.plain, .cons e' .nil) else none
    | none => none)
end
mutual
/-- a handler's expression; y: the exception's name -/
def cHE : Nat → CC → Str → Expr → Option HE
  | 0, _, _, _ => none
  | n + 1, cc, y, e => match e with
    | .Attribute (.Name x _) f _ => if x == y then some (.fld f) else none
    | .Call (.Name "isinstance" _) [.Name x _, .Name k _] [] _ => if x == y then (match cc.glob "isinstance", cc.glob k with
      | some .blt, some (.exc c) => some (.inst (.own c))
      | _, _ => none) else none
    | .Constant c _ _ => (match c with
      | .int i => some (.int i)
      | .bool b => some (.bl b)
      | .str x => some (.str x)
      | .none => some .non
      | _ => none)
    | .Tuple es _ _ => (match cHEs n cc y es with
      | some es' => some (.tup es')
      | none => none)
    | _ => none
def cHEs : Nat → CC → Str → List Expr → Option HEs
  | 0, _, _, _ => none
  | _ + 1, _, _, [] => some .nil
  | n + 1, cc, y, e :: es => if notStar e then (match cHE n cc y e, cHEs n cc y es with
    | some e', some es' => some (.cons e' es')
    | _, _ => none) else none
end
/-- a test whose truth is its value's -/
def callTest : Expr → Bool
  | .Call .. => true
  | _ => false
mutual
def cHS : Nat → CC → Str → Stmt → Option HS
  | 0, _, _, _ => none
  | n + 1, cc, y, s => match s with
    | .Return (some (.List es _)) _ => (match cHEs n cc y es with
      | some es' => some (.retL es')
      | none => none)
    | .Return (some e) _ => (match cHE n cc y e with
      | some e' => some (.ret e')
      | none => none)
    | .If c a b _ => if callTest c then (match cHE n cc y c, cHSs n cc y a, cHSs n cc y b with
      | some c', some a', some b' => some (.ite c' a' b')
      | _, _, _ => none) else none
    | _ => none
def cHSs : Nat → CC → Str → List Stmt → Option HSs
  | 0, _, _, _ => none
  | _ + 1, _, _, [] => some .nil
  | n + 1, cc, y, s :: ss => (match cHSs n cc y ss with
    | some ss' => some (.cons ((cHS n cc y s).getD .bad) ss')
    | none => none)
end
mutual
def cS : Nat → CC → Stmt → Option S
  | 0, _, _ => none
  | n + 1, cc, s => match s with
    | .Expr e _ => if noComp e then (match cE n cc e with
      | some e' => some (.expr e')
      | none => none) else none
    | .Return none _ => some .retN
    | .Delete [.Subscript a b _] _ => if notSlice b then (match cE n cc a, cE n cc b with
      | some a', some b' => some (.delIx a' b')
      | _, _ => none) else none
    | .Return (some e) _ => (match cE n cc e with
      | some e' => some (.ret e')
      | none => none)
    | .Assign [.Name x px] e _ => if noComp e then (match cc.slotW x, cE n cc e with
      | some i, some e' => some (.set (.one i) e')
      | _, _ => none) else if swapC cc x px e || swapD cc x px e then (match cc.slotW x, cE n cc e with
      | some i, some e' => some (.set (.one i) e')
      | _, _ => none) else none
    | .Assign [.Tuple ts k p] e _ => if noComp e && !isTupE e then (match cTg cc (.Tuple ts k p), cE n cc e with
      | some t, some e' => some (.set t e')
      | _, _ => none) else none
    | .Assign [.Attribute o f _] e _ => if noSuper o then (match cE n cc o, cE n cc e with
      | some o', some e' => some (.setFld o' f e')
      | _, _ => none) else none
    | .AugAssign (.Attribute a f _) o e _ => (match cE n cc a, cBop o, cE n cc e with
      | some a', some o', some e' => some (.augFld a' f o' e')
      | _, _, _ => none)
    | .Assign [.Subscript a b _] e _ => if notSlice b && noComp e then (match cE n cc a, cE n cc b, cE n cc e with
      | some a', some b', some e' => some (.setIx a' b' e')
      | _, _, _ => none) else none
    | .AugAssign (.Name x _) o e _ => (match cc.slotW x, cBop o, cE n cc e with
      | some i, some o', some e' => some (.aug i o' e')
      | _, _, _ => none)
    | .If c a b _ => (match cT n cc c, cSs n cc a, cSs n cc b with
      | some c', some a', some b' => some (.ite c' a' b')
      | _, _, _ => none)
    | .While c b [] _ => (match cT n cc c, cSs n cc b with
      | some c', some b' => some (.wh c' b')
      | _, _ => none)
    | .Raise (some (.Call (.Name x _) es [] _)) none _ => (match cc.glob x, cEs n cc es with
      | some (.exc c), some es' => some (.raise c es')
      | _, _ => none)
    | .Try b [.ExceptHandler (some (.Name x _)) (some y) (h0 :: h) _] [] [] _ => if !cc.nt && decide (cc.sc.names.lookup y = some .local) && !(y == "__debug__") && !(y == "__classdict__") then (match cSs n cc b, cc.glob x, cc.slotW y, cHSs n cc y (h0 :: h) with
      | some b', some (.exc c), some i, some h' => some (.tryE b' c i h')
      | _, _, _, _ => none) else none
    | .For t i b [] _ => (match cTg cc t, cI n cc i, cSs n { cc with nt := true } b with
      | some t', some (k, es'), some b' => if itOk k t then some (.for t' k es' b') else none
      | _, _, _ => none)
    | .Pass _ => some .pass
    | .Break _ => some .brk
    | .Continue _ => some .cnt
    | _ => none
def cSs : Nat → CC → List Stmt → Option Ss
  | 0, _, _ => none
  | _ + 1, _, [] => some .nil
  | n + 1, cc, s :: ss => (match cSs n cc ss with
    | some ss' => some (.cons ((cS n cc s).getD .bad) ss')
    | none => none)
end
end L3
end
section
set_option autoImplicit false
set_option linter.all false
set_option maxRecDepth 100000
/-! L3: how the values and the heap of the small language lie in the hand layer's -/
namespace L3
open PySem L2

/-- the written part, the classes' addresses -/
structure Ct where
  P : Program
  w : World
  K : PySem.W.Frag
  ca : Nat → Addr

/-- a list that nothing changes -/
def SqF (K : PySem.W.Frag) (H : Hp) (a : Addr) (xs : List V) : Prop :=
  (∃ ob, H a = some (.frz ob (.lst xs))) ∨
    ∃ (o : Obj) (its : Array Value) (n : Nat), K.lookup a = some o ∧ o.cls = .type "list" ∧ o.dict = none ∧ o.data = .seq its n ∧ its.size ≤ sizeLine ∧ Vals xs its.toList
theorem SqF.sq {K : PySem.W.Frag} {H : Hp} {a : Addr} {xs : List V} (h : SqF K H a xs) : SqL K H a xs := by
  rcases h with ⟨ob, h⟩ | h
  · exact .inl (.inr ⟨ob, h⟩)
  · exact .inr h
/-- a tuple: of the heap, or of the module -/
def SqU (K : PySem.W.Frag) (H : Hp) (a : Addr) (xs : List V) : Prop := H a = some (.tup xs) ∨ SqT K (fun _ => none) a xs
mutual
def RD (C : Ct) (H : Hp) : D → V → Prop
  | .non, v => v = .non
  | .bl b, v => v = .bl b
  | .int i, v => v = .int i
  | .str x, v => v = .str x
  | .tup ds, v => ∃ a xs, v = .ref a ∧ SqU C.K H a xs ∧ RDs C H ds xs
  | .kt ds, v => ∃ a xs, v = .ref a ∧ SqT C.K (fun _ => none) a xs ∧ RDs C H ds xs
  | .ref a, v => v = .ref a
  | .kl ds, v => ∃ a xs, v = .ref a ∧ SqF C.K H a xs ∧ RDs C H ds xs
  | .exn _ _, _ => False
def RDs (C : Ct) (H : Hp) : List D → List V → Prop
  | [], xs => xs = []
  | d :: ds, xs => ∃ x r, xs = x :: r ∧ RD C H d x ∧ RDs C H ds r
end
def KRel : D → Key → Prop
  | .int i, .inl j => i = j
  | .str x, .inr y => x = y
  | _, _ => False
def RDct (C : Ct) (H : Hp) (kvs : List (D × D)) (o : HO) : Prop :=
  ∃ ks : List (Key × V), o = .dK ks ∧ Paired (fun (p : D × D) (q : Key × V) => KRel p.1 q.1 ∧ RD C H p.2 q.2) kvs ks
/-- a dict whose keys are tuples, by its entries -/
def nD (P : Program) (w : World) (a : Addr) (xs : List (NestedKey × Addr × V)) : HO := .ext fun h =>
  ∃ (us : List (NestedKey × Addr × Value)) (o : Obj) (es : Array DictEntry) (ep : Nat), Paired (fun (p : NestedKey × Addr × V) (q : NestedKey × Addr × Value) => p.1 = q.1 ∧ p.2.1 = q.2.1 ∧ RelV p.2.2 q.2.2) xs us ∧
    h.get? a = some o ∧ o.ExactDict ∧ o.data = .dict es ep ∧ es.toList = us.map (entryOfKey (nestedKind P w))
abbrev PTd (C : Ct) (H : Hp) (kvs : List (D × D)) (xs : List (NestedKey × Addr × V)) : Prop :=
  Paired (fun (p : D × D) (q : NestedKey × Addr × V) => p.1.hkT = true ∧ p.1.key = q.1 ∧ RD C H p.1 (.ref q.2.1) ∧ RD C H p.2 q.2.2) kvs xs
def RDT (C : Ct) (H : Hp) (a : Addr) (kvs : List (D × D)) (o : HO) : Prop :=
  (a == sysModules) = false ∧ kvs.length ≤ sizeLine ∧ ∃ xs, o = nD C.P C.w a xs ∧ (xs.map (·.1)).Nodup ∧ PTd C H kvs xs
theorem RDT.notup {C : Ct} {H : Hp} {a : Addr} {kvs : List (D × D)} {xs : List V} (h : RDT C H a kvs (.tup xs)) : False := by
  obtain ⟨_, _, ys, e, _⟩ := h
  exact nomatch (show HO.tup xs = HO.ext _ from e)
theorem RDT.nofrz {C : Ct} {H : Hp} {a : Addr} {kvs : List (D × D)} {ob : Obj} {u : HO} (h : RDT C H a kvs (.frz ob u)) : False := by
  obtain ⟨_, _, ys, e, _⟩ := h
  exact nomatch (show HO.frz ob u = HO.ext _ from e)
theorem RDT.nolst {C : Ct} {H : Hp} {a : Addr} {kvs : List (D × D)} {xs : List V} (h : RDT C H a kvs (.lst xs)) : False := by
  obtain ⟨_, _, ys, e, _⟩ := h
  exact nomatch (show HO.lst xs = HO.ext _ from e)
def RO (C : Ct) (H : Hp) (a : Addr) : MO → HO → Prop
  | .lst ds, .lst xs => RDs C H ds xs
  | .dct kvs, o => RDct C H kvs o
  | .lck kvs, .frz _ o => RDct C H kvs o
  | .dcT kvs, o => RDT C H a kvs o
  | .lkT kvs, .frz _ o => RDT C H a kvs o
  | .ins c fs, .ins B _ gs => C.ca c = B ∧ Paired (fun (p : Str × D) (q : Str × V) => p.1 = q.1 ∧ RD C H p.2 q.2) fs gs
  | _, _ => False
def RM (C : Ct) (H : Hp) (M : Mp) : Prop := ∀ a o, M a = some o → ∃ u, H a = some u ∧ RO C H a o u
/-- what is tracked, but not told in M, stays -/
def Stp (H : Hp) (M : Mp) (H' : Hp) (M' : Mp) : Prop := (∀ a o, H a = some o → M a = none → H' a = some o ∧ M' a = none) ∧ ∀ a ob u, H a = some (.frz ob u) → H' a = some (.frz ob u)
theorem Stp.refl {H : Hp} {M : Mp} : Stp H M H M := ⟨fun _ _ h n => ⟨h, n⟩, fun _ _ _ h => h⟩
theorem Stp.trans {H H1 H2 : Hp} {M M1 M2 : Mp} (a : Stp H M H1 M1) (b : Stp H1 M1 H2 M2) : Stp H M H2 M2 := ⟨fun c o h n => by
  obtain ⟨h1, n1⟩ := a.1 c o h n
  exact b.1 c o h1 n1, fun c ob u h => b.2 c ob u (a.2 c ob u h)⟩

theorem RO.notup {C : Ct} {H : Hp} {a : Addr} {o : MO} {xs : List V} (h : RO C H a o (.tup xs)) : False := by
  cases o with
  | dct kvs =>
    obtain ⟨ks, e, _⟩ := h; cases e
  | dcT kvs => exact RDT.notup h
  | _ => exact h
theorem RO.nofrzt {C : Ct} {H : Hp} {a : Addr} {o : MO} {ob : Obj} {xs : List V} (h : RO C H a o (.frz ob (.tup xs))) : False := by
  cases o with
  | dct kvs => obtain ⟨ks, e, _⟩ := h; cases e
  | lck kvs => obtain ⟨ks, e, _⟩ := h; cases e
  | dcT kvs => exact RDT.nofrz h
  | lkT kvs => exact RDT.notup h
  | _ => exact h
theorem RO.nofrzl {C : Ct} {H : Hp} {a : Addr} {o : MO} {ob : Obj} {xs : List V} (h : RO C H a o (.frz ob (.lst xs))) : False := by
  cases o with
  | dct kvs => obtain ⟨ks, e, _⟩ := h; cases e
  | lck kvs => obtain ⟨ks, e, _⟩ := h; cases e
  | dcT kvs => exact RDT.nofrz h
  | lkT kvs => exact RDT.nolst h
  | _ => exact h
section
variable {C : Ct} {H H' : Hp} {M M' : Mp}
theorem RM.frzl {a : Addr} {ob : Obj} {xs : List V} (r : RM C H M) (h : H a = some (.frz ob (.lst xs))) : M a = none := by
  cases e : M a with
  | none => rfl
  | some o =>
    obtain ⟨u, hu, ro⟩ := r a o e
    rw [h] at hu; cases hu
    exact ro.nofrzl.elim
theorem RM.tup {a : Addr} {xs : List V} (r : RM C H M) (h : H a = some (.tup xs)) : M a = none := by
  cases e : M a with
  | none => rfl
  | some o =>
    obtain ⟨u, hu, ro⟩ := r a o e
    rw [h] at hu; cases hu
    exact ro.notup.elim
theorem RM.frzt {a : Addr} {ob : Obj} {xs : List V} (r : RM C H M) (h : H a = some (.frz ob (.tup xs))) : M a = none := by
  cases e : M a with
  | none => rfl
  | some o =>
    obtain ⟨u, hu, ro⟩ := r a o e
    rw [h] at hu; cases hu
    exact ro.nofrzt.elim
/-- tuples and lists that nothing changes stay -/
theorem sqk {K : PySem.W.Frag} {H : Hp} {a : Addr} {xs : List V} (h : SqT K (fun _ => none) a xs) : SqT K H a xs := by
  rcases h with (h | ⟨_, h⟩) | h
  · cases h
  · cases h
  · exact .inr h
theorem SqU.sq {K : PySem.W.Frag} {H : Hp} {a : Addr} {xs : List V} (h : SqU K H a xs) : SqT K H a xs := by
  rcases h with h | h
  · exact .inl (.inl h)
  · exact sqk h
def TupK0 (H H' : Hp) : Prop := (∀ a xs, H a = some (.tup xs) → H' a = some (.tup xs)) ∧ ∀ a ob xs, H a = some (.frz ob (.lst xs)) → H' a = some (.frz ob (.lst xs))
/-- .. and all that is frozen -/
def TupK (H H' : Hp) : Prop := (∀ a xs, H a = some (.tup xs) → H' a = some (.tup xs)) ∧ ∀ a ob u, H a = some (.frz ob u) → H' a = some (.frz ob u)
theorem TupK.weak (k : TupK H H') : TupK0 H H' := ⟨k.1, fun a ob xs h => k.2 a ob _ h⟩
theorem TupK.refl {H : Hp} : TupK H H := ⟨fun _ _ h => h, fun _ _ _ h => h⟩
theorem TupK.trans {H H1 H2 : Hp} (a : TupK H H1) (b : TupK H1 H2) : TupK H H2 := ⟨fun c xs h => b.1 c xs (a.1 c xs h), fun c ob xs h => b.2 c ob xs (a.2 c ob xs h)⟩
theorem Stp.tupK (r : RM C H M) (s : Stp H M H' M') : TupK H H' := ⟨fun a xs h => (s.1 a _ h (r.tup h)).1, s.2⟩
theorem TupK0.squ (k : TupK0 H H') {K : PySem.W.Frag} {a : Addr} {xs : List V} (h : SqU K H a xs) : SqU K H' a xs := by
  rcases h with h | h
  · exact .inl (k.1 a xs h)
  · exact .inr h
theorem TupK0.sqf (k : TupK0 H H') {K : PySem.W.Frag} {a : Addr} {xs : List V} (h : SqF K H a xs) : SqF K H' a xs := by
  rcases h with ⟨ob, h⟩ | h
  · exact .inl ⟨ob, k.2 a ob xs h⟩
  · exact .inr h
mutual
theorem RD.keep0 (k : TupK0 H H') : ∀ {d : D} {v : V}, RD C H d v → RD C H' d v
  | .non, v, h => h
  | .bl b, v, h => h
  | .int i, v, h => h
  | .str x, v, h => h
  | .tup ds, v, h => by
    obtain ⟨a, xs, e, hq, hs⟩ := h
    exact ⟨a, xs, e, k.squ hq, RDs.keep0 k hs⟩
  | .kt ds, v, h => by
    obtain ⟨a, xs, e, hq, hs⟩ := h
    exact ⟨a, xs, e, hq, RDs.keep0 k hs⟩
  | .ref a, v, h => h
  | .kl ds, v, h => by
    obtain ⟨a, xs, e, hq, hs⟩ := h
    exact ⟨a, xs, e, k.sqf hq, RDs.keep0 k hs⟩
  | .exn _ _, v, h => h
theorem RDs.keep0 (k : TupK0 H H') : ∀ {ds : List D} {xs : List V}, RDs C H ds xs → RDs C H' ds xs
  | [], xs, h => h
  | d :: ds, xs, h => by
    obtain ⟨x, r, e, h1, h2⟩ := h
    exact ⟨x, r, e, RD.keep0 k h1, RDs.keep0 k h2⟩
end
theorem RD.cn {d : D} {v : V} (h : RD C H d v) : RD C H d.cn v := by
  cases d with
  | kt ds =>
    obtain ⟨a, xs, e, hq, rs⟩ := h
    exact ⟨a, xs, e, .inr hq, rs⟩
  | _ => exact h
theorem RDct.keep0 (k : TupK0 H H') {kvs : List (D × D)} {o : HO} (h : RDct C H kvs o) : RDct C H' kvs o := by
  obtain ⟨ks, e, p⟩ := h
  exact ⟨ks, e, Paired.mapP p fun _ _ q => ⟨q.1, q.2.keep0 k⟩⟩
theorem RDT.keep0 (k : TupK0 H H') {a : Addr} {kvs : List (D × D)} {o : HO} (h : RDT C H a kvs o) : RDT C H' a kvs o := by
  obtain ⟨h1, h2, xs, e, n, p⟩ := h
  exact ⟨h1, h2, xs, e, n, Paired.mapP p fun _ _ q => ⟨q.1, q.2.1, q.2.2.1.keep0 k, q.2.2.2.keep0 k⟩⟩
theorem RO.keep0 (k : TupK0 H H') {a : Addr} {o : MO} {u : HO} (h : RO C H a o u) : RO C H' a o u := by
  cases o with
  | lst ds => cases u with
    | lst xs => exact RDs.keep0 k h
    | _ => exact h
  | dct kvs => exact RDct.keep0 k h
  | lck kvs => cases u with
    | frz ob u => exact RDct.keep0 k h
    | _ => exact h
  | dcT kvs => exact RDT.keep0 k h
  | lkT kvs => cases u with
    | frz ob u => exact RDT.keep0 k h
    | _ => exact h
  | ins c fs => cases u with
    | ins B dx gs => exact ⟨h.1, Paired.mapP h.2 fun _ _ q => ⟨q.1, q.2.keep0 k⟩⟩
    | _ => exact h
theorem RD.keep (k : TupK H H') {d : D} {v : V} (h : RD C H d v) : RD C H' d v := h.keep0 k.weak
theorem RDs.keep (k : TupK H H') {ds : List D} {xs : List V} (h : RDs C H ds xs) : RDs C H' ds xs := h.keep0 k.weak
theorem RDct.keep (k : TupK H H') {kvs : List (D × D)} {o : HO} (h : RDct C H kvs o) : RDct C H' kvs o := h.keep0 k.weak
theorem RO.keep (k : TupK H H') {a : Addr} {o : MO} {u : HO} (h : RO C H a o u) : RO C H' a o u := h.keep0 k.weak
theorem RDs.length : ∀ {ds : List D} {xs : List V}, RDs C H ds xs → ds.length = xs.length
  | [], xs, h => by rw [show xs = [] from h]; rfl
  | d :: ds, xs, h => by
    obtain ⟨x, r, e, _, h2⟩ := h
    rw [e, List.length_cons, List.length_cons, RDs.length h2]
theorem RDs.append : ∀ {ds es : List D} {xs ys : List V}, RDs C H ds xs → RDs C H es ys → RDs C H (ds ++ es) (xs ++ ys)
  | [], es, xs, ys, h, h2 => by rw [show xs = [] from h]; exact h2
  | d :: ds, es, xs, ys, h, h2 => by
    obtain ⟨x, r, e, h1, h3⟩ := h
    rw [e]
    exact ⟨x, r ++ ys, rfl, h1, RDs.append h3 h2⟩
theorem RDs.get : ∀ {ds : List D} {xs : List V} {i : Nat} {d : D}, RDs C H ds xs → ds[i]? = some d → ∃ x, xs[i]? = some x ∧ RD C H d x
  | [], xs, i, d, h, e => by simp at e
  | d :: ds, xs, 0, d', h, e => by
    obtain ⟨x, r, e2, h1, h2⟩ := h
    have : d = d' := by simpa using e
    subst this
    exact ⟨x, by rw [e2]; rfl, h1⟩
  | d :: ds, xs, i + 1, d', h, e => by
    obtain ⟨x, r, e2, h1, h2⟩ := h
    obtain ⟨y, hy, ry⟩ := RDs.get (i := i) (d := d') h2 (by simpa using e)
    exact ⟨y, by rw [e2]; simpa using hy, ry⟩
theorem RDs.set : ∀ {ds : List D} {xs : List V} (i : Nat) {d : D} {x : V}, RDs C H ds xs → RD C H d x → RDs C H (ds.set i d) (xs.set i x)
  | [], xs, i, d, x, h, r => by rw [show xs = [] from h]; exact rfl
  | d :: ds, xs, 0, d', x', h, r => by
    obtain ⟨x, l, e2, h1, h2⟩ := h
    rw [e2]
    exact ⟨x', l, rfl, r, h2⟩
  | d :: ds, xs, i + 1, d', x', h, r => by
    obtain ⟨x, l, e2, h1, h2⟩ := h
    rw [e2]
    exact ⟨x, l.set i x', rfl, h1, RDs.set i h2 r⟩
theorem RDs.drop : ∀ {ds : List D} {xs : List V} (n : Nat), RDs C H ds xs → RDs C H (ds.drop n) (xs.drop n)
  | ds, xs, 0, h => h
  | [], xs, n + 1, h => by rw [show xs = [] from h]; exact rfl
  | d :: ds, xs, n + 1, h => by
    obtain ⟨x, l, e2, h1, h2⟩ := h
    rw [e2]
    exact RDs.drop n h2
theorem RDs.take : ∀ {ds : List D} {xs : List V} (n : Nat), RDs C H ds xs → RDs C H (ds.take n) (xs.take n)
  | ds, xs, 0, h => rfl
  | [], xs, n + 1, h => by rw [show xs = [] from h]; exact rfl
  | d :: ds, xs, n + 1, h => by
    obtain ⟨x, l, e2, h1, h2⟩ := h
    rw [e2]
    exact ⟨x, l.take n, rfl, h1, RDs.take n h2⟩
theorem RDs.eraseIdx : ∀ {ds : List D} {xs : List V} (n : Nat), RDs C H ds xs → RDs C H (ds.eraseIdx n) (xs.eraseIdx n)
  | [], xs, n, h => by rw [show xs = [] from h]; exact rfl
  | d :: ds, xs, 0, h => by
    obtain ⟨x, l, e2, h1, h2⟩ := h
    rw [e2]
    exact h2
  | d :: ds, xs, n + 1, h => by
    obtain ⟨x, l, e2, h1, h2⟩ := h
    rw [e2]
    exact ⟨x, l.eraseIdx n, rfl, h1, RDs.eraseIdx n h2⟩
theorem RDs.reverse : ∀ {ds : List D} {xs : List V}, RDs C H ds xs → RDs C H ds.reverse xs.reverse
  | [], xs, h => by rw [show xs = [] from h]; exact rfl
  | d :: ds, xs, h => by
    obtain ⟨x, l, e2, h1, h2⟩ := h
    rw [e2, List.reverse_cons, List.reverse_cons]
    exact RDs.append (RDs.reverse h2) ⟨x, [], rfl, h1, rfl⟩
theorem RDs.splitLast {ds : List D} {d : D} {xs : List V} (h : RDs C H (ds ++ [d]) xs) : ∃ ys y, xs = ys ++ [y] ∧ RDs C H ds ys ∧ RD C H d y := by
  have h1 := RDs.take ds.length h
  have h2 := RDs.drop ds.length h
  rw [List.take_left' rfl] at h1
  rw [List.drop_left' rfl] at h2
  obtain ⟨y, r, e, h3, h4⟩ := h2
  rw [show r = [] from h4] at e
  refine ⟨xs.take ds.length, y, ?_, h1, h3⟩
  rw [← e, List.take_append_drop]

/-- the values by slot -/
def RL (C : Ct) (H : Hp) (σ3 : Lo) (σ : L2.St) : Prop := σ3.length = σ.length ∧ ∀ (i : Nat) (d : D), σ3[i]? = some (some d) → ∃ v, σ[i]? = some (some v) ∧ RD C H d v
theorem RL.keep0 (k : TupK0 H H') {σ3 : Lo} {σ : L2.St} (h : RL C H σ3 σ) : RL C H' σ3 σ :=
  ⟨h.1, fun i d e => let ⟨v, e1, r⟩ := h.2 i d e; ⟨v, e1, r.keep0 k⟩⟩
theorem RL.keep (k : TupK H H') {σ3 : Lo} {σ : L2.St} (h : RL C H σ3 σ) : RL C H' σ3 σ := h.keep0 k.weak
theorem RL.set {σ3 : Lo} {σ : L2.St} (h : RL C H σ3 σ) {i : Nat} {d : D} {v : V} (r : RD C H d v) : RL C H (σ3.set i (some d)) (σ.set i (some v)) := by
  refine ⟨by rw [List.length_set, List.length_set]; exact h.1, fun j d' e => ?_⟩
  by_cases hj : i = j
  · subst hj
    by_cases hl : i < σ3.length
    · rw [List.getElem?_set_self hl] at e
      cases e
      exact ⟨v, by rw [List.getElem?_set_self (by rw [← h.1]; exact hl)], r⟩
    · rw [List.getElem?_eq_none (by rw [List.length_set]; omega)] at e
      cases e
  · rw [List.getElem?_set_ne hj] at e
    obtain ⟨v', e1, r1⟩ := h.2 j d' e
    exact ⟨v', by rw [List.getElem?_set_ne hj]; exact e1, r1⟩
/-- forgetting is free -/
theorem RL.unset {σ3 : Lo} {σ : L2.St} (h : RL C H σ3 σ) (i : Nat) : RL C H (σ3.set i none) σ := by
  refine ⟨by rw [List.length_set]; exact h.1, fun j d' e => ?_⟩
  by_cases hj : i = j
  · subst hj
    by_cases hl : i < σ3.length
    · rw [List.getElem?_set_self hl] at e
      cases e
    · rw [List.getElem?_eq_none (by rw [List.length_set]; omega)] at e
      cases e
  · rw [List.getElem?_set_ne hj] at e
    exact h.2 j d' e
end

/-- a state of the small language within a context: M0 stood at the context's entry -/
structure I3 (C : Ct) (X : Cx) (M0 : Mp) (pins : List (Addr × Obj)) (σ3 : Lo) (M : Mp) (σ : L2.St) (H : Hp) (s : Shared) : Prop where
  inv : Inv X pins σ H s
  lo : RL C H σ3 σ
  hp : RM C H M
  st : Stp X.H_0 M0 H M
/-- an expression has come to its end -/
def EP3 (C : Ct) (X : Cx) (M0 : Mp) (pins : List (Addr × Obj)) (σ3 : Lo) (σ : L2.St) (H : Hp) (M : Mp) (Q : Post) (u : Value) (s' : Shared) : Prop :=
  ∃ d M' v H', I3 C X M0 pins σ3 M' σ H' s' ∧ RelV v u ∧ RD C H' d v ∧ Stp H M H' M' ∧ Q d M'
def EPs3 (C : Ct) (X : Cx) (M0 : Mp) (pins : List (Addr × Obj)) (σ3 : Lo) (σ : L2.St) (H : Hp) (M : Mp) (Q : List D → Mp → Prop) (us : List Value) (s' : Shared) : Prop :=
  ∃ ds M' vs H', I3 C X M0 pins σ3 M' σ H' s' ∧ Vals vs us ∧ RDs C H' ds vs ∧ Stp H M H' M' ∧ Q ds M'
def TP3 (C : Ct) (X : Cx) (M0 : Mp) (pins : List (Addr × Obj)) (σ3 : Lo) (σ : L2.St) (H : Hp) (M : Mp) (k : Bool → Mp → Prop) (b : Bool) (s' : Shared) : Prop :=
  ∃ M' H', I3 C X M0 pins σ3 M' σ H' s' ∧ Stp H M H' M' ∧ k b M'
section
variable {C : Ct} {X : Cx} {M0 M M' : Mp} {pins : List (Addr × Obj)} {σ3 : Lo} {σ : L2.St} {H H' : Hp} {s s' : Shared}
theorem I3.to (I : I3 C X M0 pins σ3 M σ H s) (J : Inv X pins σ H' s') (r : RM C H' M') (t : Stp H M H' M') : I3 C X M0 pins σ3 M' σ H' s' :=
  ⟨J, I.lo.keep (t.tupK I.hp), r, I.st.trans t⟩
theorem I3.same (I : I3 C X M0 pins σ3 M σ H s) (J : Inv X pins σ H s') : I3 C X M0 pins σ3 M σ H s' := ⟨J, I.lo, I.hp, I.st⟩
/-- a new object, told or not -/
theorem upd_stp {p : Addr} {o : HO} (hp : H p = none) : Stp H M (upd H p o) M := ⟨fun a u e n => ⟨by rw [upd_ne (ne_of_none e hp)]; exact e, n⟩, fun a ob u e => by rw [upd_ne (ne_of_none e hp)]; exact e⟩
theorem mset_stp {p : Addr} {o : HO} {m : MO} (hp : H p = none) : Stp H M (upd H p o) (mset M p m) := ⟨fun a u e n => by
  have ne : a ≠ p := ne_of_none e hp
  exact ⟨by rw [upd_ne ne]; exact e, by rw [mset_ne ne]; exact n⟩, fun a ob u e => by rw [upd_ne (ne_of_none e hp)]; exact e⟩
theorem RM.free (r : RM C H M) {p : Addr} (hp : H p = none) : M p = none := by
  cases e : M p with
  | none => rfl
  | some o =>
    obtain ⟨u, hu, _⟩ := r p o e
    rw [hp] at hu; cases hu
theorem tupK_new {p : Addr} {o : HO} (hp : H p = none) : TupK H (upd H p o) := ⟨fun a xs h => by
  rw [upd_ne (ne_of_none h hp)]; exact h, fun a ob xs h => by rw [upd_ne (ne_of_none h hp)]; exact h⟩
theorem RM.new0 (r : RM C H M) {p : Addr} {o : HO} (hp : H p = none) : RM C (upd H p o) M := fun a m e => by
  obtain ⟨u, hu, ro⟩ := r a m e
  exact ⟨u, by rw [upd_ne (ne_of_none hu hp)]; exact hu, ro.keep (tupK_new hp)⟩
theorem RM.new (r : RM C H M) {p : Addr} {o : HO} {m : MO} (hp : H p = none) (ro : RO C (upd H p o) p m o) : RM C (upd H p o) (mset M p m) := fun a m' e => by
  by_cases h : a = p
  · subst h
    rw [mset_same] at e; cases e
    exact ⟨o, upd_same, ro⟩
  · rw [mset_ne h] at e
    obtain ⟨u, hu, q⟩ := r a m' e
    exact ⟨u, by rw [upd_ne h]; exact hu, q.keep (tupK_new hp)⟩
/-- an object that is told is written: it was no tuple, nothing frozen -/
theorem tupK_set {p : Addr} {o u : HO} (hu : H p = some u) (h1 : ∀ xs, u ≠ .tup xs) (h2 : ∀ ob x, u ≠ .frz ob x) : TupK H (upd H p o) := ⟨fun a xs h => by
  have ne : a ≠ p := by rintro rfl; rw [h] at hu; cases hu; exact h1 _ rfl
  rw [upd_ne ne]; exact h, fun a ob xs h => by
  have ne : a ≠ p := by rintro rfl; rw [h] at hu; cases hu; exact h2 _ _ rfl
  rw [upd_ne ne]; exact h⟩
def MO.free : MO → Prop
  | .lck _ => False
  | .lkT _ => False
  | _ => True
theorem RM.nofrz (r : RM C H M) {p : Addr} {m : MO} (hm : M p = some m) (hl : m.free) : ∃ u, H p = some u ∧ (∀ xs, u ≠ .tup xs) ∧ ∀ ob x, u ≠ .frz ob x := by
  obtain ⟨u, hu, ro⟩ := r p m hm
  refine ⟨u, hu, fun xs e => ?_, fun ob x e => ?_⟩
  · rw [e] at ro; exact ro.notup
  · rw [e] at ro
    cases m with
    | lck kvs => exact hl
    | lkT kvs => exact hl
    | dct kvs => obtain ⟨ks, e, _⟩ : RDct C H kvs _ := ro; cases e
    | dcT kvs => exact RDT.nofrz ro
    | _ => exact ro
theorem RM.tupKw (r : RM C H M) {p : Addr} {m : MO} {o : HO} (hm : M p = some m) (hl : m.free := by trivial) : TupK H (upd H p o) := by
  obtain ⟨u, hu, h1, h2⟩ := r.nofrz hm hl
  exact tupK_set hu h1 h2
theorem RM.write (r : RM C H M) {p : Addr} {m m' : MO} {o : HO} (hm : M p = some m) (ro : RO C (upd H p o) p m' o) (hl : m.free := by trivial) : RM C (upd H p o) (mset M p m') := fun a m2 e => by
  by_cases h : a = p
  · subst h
    rw [mset_same] at e; cases e
    exact ⟨o, upd_same, ro⟩
  · rw [mset_ne h] at e
    obtain ⟨u, hu, q⟩ := r a m2 e
    exact ⟨u, by rw [upd_ne h]; exact hu, q.keep (r.tupKw hm hl)⟩
theorem write_stp (r : RM C H M) {p : Addr} {m m' : MO} {o : HO} (hm : M p = some m) (hl : m.free := by trivial) : Stp H M (upd H p o) (mset M p m') := ⟨fun a u e n => by
  have ne : a ≠ p := by rintro rfl; rw [hm] at n; cases n
  exact ⟨by rw [upd_ne ne]; exact e, by rw [mset_ne ne]; exact n⟩, (r.tupKw hm hl).2⟩
theorem RM.lst (r : RM C H M) {a : Addr} {ds : List D} (h : M a = some (.lst ds)) : ∃ xs, H a = some (.lst xs) ∧ RDs C H ds xs := by
  obtain ⟨u, hu, ro⟩ := r a _ h
  cases u with
  | lst xs => exact ⟨xs, hu, ro⟩
  | _ => exact ro.elim
theorem RM.dct (r : RM C H M) {a : Addr} {kvs : List (D × D)} (h : M a = some (.dct kvs)) : ∃ ks : List (Key × V), H a = some (.dK ks) ∧ Paired (fun (p : D × D) (q : Key × V) => KRel p.1 q.1 ∧ RD C H p.2 q.2) kvs ks := by
  obtain ⟨u, hu, ro⟩ := r a _ h
  obtain ⟨ks, e, p⟩ : RDct C H kvs u := ro
  subst e
  exact ⟨ks, hu, p⟩
theorem RM.lck (r : RM C H M) {a : Addr} {kvs : List (D × D)} (h : M a = some (.lck kvs)) : ∃ (ob : Obj) (ks : List (Key × V)), H a = some (.frz ob (.dK ks)) ∧ Paired (fun (p : D × D) (q : Key × V) => KRel p.1 q.1 ∧ RD C H p.2 q.2) kvs ks := by
  obtain ⟨u, hu, ro⟩ := r a _ h
  cases u with
  | frz ob u =>
    obtain ⟨ks, e, p⟩ : RDct C H kvs u := ro
    subst e
    exact ⟨ob, ks, hu, p⟩
  | _ => exact ro.elim
theorem RM.dcT (r : RM C H M) {a : Addr} {kvs : List (D × D)} (h : M a = some (.dcT kvs)) : (a == sysModules) = false ∧ kvs.length ≤ sizeLine ∧ ∃ xs, H a = some (nD C.P C.w a xs) ∧ (xs.map (·.1)).Nodup ∧ PTd C H kvs xs := by
  obtain ⟨u, hu, ro⟩ := r a _ h
  obtain ⟨h1, h2, xs, e, p⟩ : RDT C H a kvs u := ro
  subst e
  exact ⟨h1, h2, xs, hu, p⟩
theorem RM.lkT (r : RM C H M) {a : Addr} {kvs : List (D × D)} (h : M a = some (.lkT kvs)) : (a == sysModules) = false ∧ kvs.length ≤ sizeLine ∧ ∃ (ob : Obj) (xs : List (NestedKey × Addr × V)), H a = some (.frz ob (nD C.P C.w a xs)) ∧ (xs.map (·.1)).Nodup ∧ PTd C H kvs xs := by
  obtain ⟨u, hu, ro⟩ := r a _ h
  cases u with
  | frz ob u =>
    obtain ⟨h1, h2, xs, e, p⟩ : RDT C H a kvs u := ro
    subst e
    exact ⟨h1, h2, ob, xs, hu, p⟩
  | _ => exact ro.elim
theorem RM.ins (r : RM C H M) {a : Addr} {c : Nat} {fs : List (Str × D)} (h : M a = some (.ins c fs)) : ∃ dx gs, H a = some (.ins (C.ca c) dx gs) ∧ Paired (fun (p : Str × D) (q : Str × V) => p.1 = q.1 ∧ RD C H p.2 q.2) fs gs := by
  obtain ⟨u, hu, ro⟩ := r a _ h
  cases u with
  | ins B dx gs =>
    obtain ⟨e, p⟩ := ro
    exact ⟨dx, gs, by rw [e]; exact hu, p⟩
  | _ => exact ro.elim
end
/-! ### exceptions -/
/-- a field that a message can tell -/
def D.fv : D → V
  | .int i => .int i
  | .str x => .str x
  | _ => .non
theorem fv_rd {C : Ct} {H : Hp} {d : D} (h : d.fmt) : RD C H d d.fv := by
  cases d with
  | int i => rfl
  | str x => rfl
  | _ => exact h.elim
theorem rd_fv {C : Ct} {H : Hp} {d : D} {v : V} (h : d.fmt) (r : RD C H d v) : v = d.fv := by
  cases d with
  | int i => exact r
  | str x => exact r
  | _ => exact h.elim
/-- an exception's object: class, dict -/
def XO (C : Ct) (H : Hp) (cls : Value) (d : Option Addr) (c : Nat) (ds : List D) : Prop :=
  cls = .ref (C.ca c) ∧ ((ds = [] ∧ d = none) ∨ ∃ (dd : Addr) (fs : List (Str × V)), d = some dd ∧ H dd = some (.xd fs) ∧ ∀ f e, exnG f ds = some e → e.fmt ∧ fs.lookup f = some e.fv)
theorem RM.xd {C : Ct} {H : Hp} {M : Mp} {dd : Addr} {fs : List (Str × V)} (r : RM C H M) (h : H dd = some (.xd fs)) : M dd = none := by
  cases e : M dd with
  | none => rfl
  | some o =>
    obtain ⟨u, hu, ro⟩ := r dd o e
    rw [h] at hu; cases hu
    cases o with
    | dct kvs => obtain ⟨ks, e, _⟩ : RDct C H kvs _ := ro; cases e
    | dcT kvs =>
      obtain ⟨_, _, ys, e, _⟩ : RDT C H dd kvs _ := ro
      exact nomatch (show HO.xd fs = HO.ext _ from e)
    | _ => exact ro.elim
theorem XO.keep {C : Ct} {H H' : Hp} {M M' : Mp} {cls : Value} {d : Option Addr} {c : Nat} {ds : List D} (h : XO C H cls d c ds) (r : RM C H M) (st : Stp H M H' M') : XO C H' cls d c ds := by
  obtain ⟨e, h⟩ := h
  refine ⟨e, ?_⟩
  rcases h with h | ⟨dd, fs, e1, e2, e3⟩
  · exact .inl h
  · exact .inr ⟨dd, fs, e1, (st.1 dd _ e2 (r.xd e2)).1, e3⟩
end L3
end
section
set_option autoImplicit false
set_option linter.all false
set_option maxRecDepth 100000
/-! L3: operations by values -/
namespace L3
open PySem L2

section
variable {C : Ct} {H : Hp} {h : Heap}
/-! ### keys -/
mutual
theorem RD.is (ok : HOk C.P C.w H h) (kin : C.K.In h) : ∀ {d : D} {v : V} {u : Value}, RD C H d v → RelV v u → d.pure = true → NestedIs h d.key u
  | .non, v, u, r, q, _ => by rw [show v = .non from r] at q; cases q; exact .none
  | .bl b, v, u, r, q, _ => by rw [show v = .bl b from r] at q; cases q; exact .bool rfl
  | .int i, v, u, r, q, _ => by rw [show v = .int i from r] at q; obtain ⟨t, rfl⟩ := q; exact .int i t
  | .str x, v, u, r, q, _ => by rw [show v = .str x from r] at q; obtain ⟨t, rfl⟩ := q; exact .text x t
  | .tup ds, v, u, r, q, p => by
    obtain ⟨a, xs, rfl, hq, hs⟩ := r
    cases q
    rcases hq with hq | (hq | ⟨_, hq⟩) | ⟨o, its, n, hk, hc, hd, hz, rv⟩
    · obtain ⟨z, its, rv, o, ho, hc, n, hd⟩ := (show Rd H a (.tup xs) from .inl hq).ok ok
      exact .tup ho hc hd (by simpa using RDs.is ok kin hs rv p)
    · cases hq
    · cases hq
    · exact .tup (kin a o hk) hc hd (RDs.is ok kin hs rv p)
  | .kt ds, v, u, r, q, p => by
    obtain ⟨a, xs, rfl, hq, hs⟩ := r
    cases q
    rcases hq with (hq | ⟨_, hq⟩) | ⟨o, its, n, hk, hc, hd, hz, rv⟩
    · cases hq
    · cases hq
    · exact .tup (kin a o hk) hc hd (RDs.is ok kin hs rv p)
  | .ref _, _, _, _, _, p => absurd p Bool.false_ne_true
  | .exn _ _, _, _, _, _, p => absurd p Bool.false_ne_true
  | .kl _, _, _, _, _, p => absurd p Bool.false_ne_true
theorem RDs.is (ok : HOk C.P C.w H h) (kin : C.K.In h) : ∀ {ds : List D} {xs : List V} {us : List Value}, RDs C H ds xs → Vals xs us → D.pures ds = true → NestedAll h (D.keys ds) us
  | [], xs, us, r, q, _ => by rw [show xs = [] from r] at q; cases q; exact .nil
  | d :: ds, xs, us, r, q, p => by
    obtain ⟨x, l, rfl, h1, h2⟩ := r
    cases q with
    | cons q1 q2 =>
      have p' : (d.pure && D.pures ds) = true := p
      rw [Bool.and_eq_true] at p'
      exact .cons (RD.is ok kin h1 q1 p'.1) (RDs.is ok kin h2 q2 p'.2)
end
/-! ### data -/
end

open SeqAt in
theorem rcKey {A : Around} {s : Shared} : ∀ (x y : NestedKey) (a b : Value), NestedIs s.heap x a → NestedIs s.heap y b → A.units + min x.depth y.depth < cLine → RcAt A s a b (NestedKey.beq x y) := by
  intro x y a b ra rb hu
  cases ra with
  | none => cases rb with
    | none => exact RcAt.none_none
    | @bool d i e => exact RcAt.none_bool d
    | int y u => exact RcAt.none_int y u
    | text y u => exact RcAt.none_str y u
    | tup k1 k2 k3 k4 => exact RcAt.none_tuple ⟨_, k1, k2, _, k3⟩ (room_here hu)
  | @bool c i e =>
    subst e
    cases rb with
    | none => exact RcAt.bool_none c
    | @bool d i e =>
      subst e
      have : NestedKey.beq (.num (if c = true then 1 else 0)) (.num (if d = true then 1 else 0)) = (c == d) := by cases c <;> cases d <;> rfl
      rw [this]; exact RcAt.bool_bool c d
    | int y u =>
      have : NestedKey.beq (.num (if c = true then 1 else 0)) (.num y) = ((if c then 1 else 0) == y) := by (simp only [NestedKey.beq]; rw [Bool.eq_iff_iff]; simp)
      rw [this]; exact RcAt.bool_int c y u
    | text y u => exact RcAt.bool_str c y u
    | tup k1 k2 k3 k4 => exact RcAt.bool_tuple c ⟨_, k1, k2, _, k3⟩ (room_here hu)
  | int x t => cases rb with
    | none => exact RcAt.int_none x t
    | @bool d i e =>
      subst e
      have : NestedKey.beq (.num x) (.num (if d = true then 1 else 0)) = (x == (if d then 1 else 0)) := by (simp only [NestedKey.beq]; rw [Bool.eq_iff_iff]; simp)
      rw [this]; exact RcAt.int_bool x t d
    | int y u =>
      have : NestedKey.beq (.num x) (.num y) = (x == y) := by (simp only [NestedKey.beq]; rw [Bool.eq_iff_iff]; simp)
      rw [this]; exact RcAt.int_int x t y u
    | text y u => exact RcAt.int_str x t y u
    | tup k1 k2 k3 k4 => exact RcAt.int_tuple x t ⟨_, k1, k2, _, k3⟩ (room_here hu)
  | text x t => cases rb with
    | none => exact RcAt.str_none x t
    | @bool d i e => exact RcAt.str_bool x t d
    | int y u => exact RcAt.str_int x t y u
    | text y u =>
      have : NestedKey.beq (.text x) (.text y) = (x == y) := by (simp only [NestedKey.beq]; rw [Bool.eq_iff_iff]; simp)
      rw [this]; exact RcAt.str_str x t y u
    | tup k1 k2 k3 k4 => exact RcAt.str_tuple x t ⟨_, k1, k2, _, k3⟩ (room_here hu)
  | @tup l o vs n xs h1 h2 h3 h4 =>
    have hl : s.heap.IsTuple l vs := ⟨_, h1, h2, _, h3⟩
    cases rb with
    | none => exact RcAt.tuple_none hl (room_here hu)
    | @bool d i e => exact RcAt.tuple_bool d hl (room_here hu)
    | int y u => exact RcAt.tuple_int y u hl (room_here hu)
    | text y u => exact RcAt.tuple_str y u hl (room_here hu)
    | @tup l' o' vs' n' ys k1 k2 k3 k4 =>
      have hl' : s.heap.IsTuple l' vs' := ⟨_, k1, k2, _, k3⟩
      have n1 : vs.size = xs.length := by simpa using NestedAll.length _ _ h4
      have n2 : vs'.size = ys.length := by simpa using NestedAll.length _ _ k4
      show RcAt A s (.ref l) (.ref l') (NestedKey.beqAll xs ys)
      rw [← beqAll_eq xs ys, ← n1, ← n2]
      refine RcAt.tuples hl hl' (room_here hu) fun j j1 j2 => ?_
      have := eqAt_keys xs ys A.in1 s vs.toList vs'.toList h4 k4 (room_in hu) j (by simpa using j1) (by simpa using j2)
      simpa using this
open SeqAt in
theorem rcNeKey {A : Around} {s : Shared} : ∀ (x y : NestedKey) (a b : Value), NestedIs s.heap x a → NestedIs s.heap y b → A.units + min x.depth y.depth < cLine → RcNeAt A s a b (!NestedKey.beq x y) := by
  intro x y a b ra rb hu
  cases ra with
  | none => cases rb with
    | none => exact RcNeAt.none_none
    | @bool d i e => exact RcNeAt.none_bool d
    | int y u => exact RcNeAt.none_int y u
    | text y u => exact RcNeAt.none_str y u
    | tup k1 k2 k3 k4 => exact RcNeAt.none_tuple ⟨_, k1, k2, _, k3⟩ (room_here hu)
  | @bool c i e =>
    subst e
    cases rb with
    | none => exact RcNeAt.bool_none c
    | @bool d i e =>
      subst e
      have : NestedKey.beq (.num (if c = true then 1 else 0)) (.num (if d = true then 1 else 0)) = (c == d) := by cases c <;> cases d <;> rfl
      rw [this]; exact RcNeAt.bool_bool c d
    | int y u =>
      have : NestedKey.beq (.num (if c = true then 1 else 0)) (.num y) = ((if c then 1 else 0) == y) := by (simp only [NestedKey.beq]; rw [Bool.eq_iff_iff]; simp)
      rw [this]; exact RcNeAt.bool_int c y u
    | text y u => exact RcNeAt.bool_str c y u
    | tup k1 k2 k3 k4 => exact RcNeAt.bool_tuple c ⟨_, k1, k2, _, k3⟩ (room_here hu)
  | int x t => cases rb with
    | none => exact RcNeAt.int_none x t
    | @bool d i e =>
      subst e
      have : NestedKey.beq (.num x) (.num (if d = true then 1 else 0)) = (x == (if d then 1 else 0)) := by (simp only [NestedKey.beq]; rw [Bool.eq_iff_iff]; simp)
      rw [this]; exact RcNeAt.int_bool x t d
    | int y u =>
      have : NestedKey.beq (.num x) (.num y) = (x == y) := by (simp only [NestedKey.beq]; rw [Bool.eq_iff_iff]; simp)
      rw [this]; exact RcNeAt.int_int x t y u
    | text y u => exact RcNeAt.int_str x t y u
    | tup k1 k2 k3 k4 => exact RcNeAt.int_tuple x t ⟨_, k1, k2, _, k3⟩ (room_here hu)
  | text x t => cases rb with
    | none => exact RcNeAt.str_none x t
    | @bool d i e => exact RcNeAt.str_bool x t d
    | int y u => exact RcNeAt.str_int x t y u
    | text y u =>
      have : NestedKey.beq (.text x) (.text y) = (x == y) := by (simp only [NestedKey.beq]; rw [Bool.eq_iff_iff]; simp)
      rw [this]; exact RcNeAt.str_str x t y u
    | tup k1 k2 k3 k4 => exact RcNeAt.str_tuple x t ⟨_, k1, k2, _, k3⟩ (room_here hu)
  | @tup l o vs n xs h1 h2 h3 h4 =>
    have hl : s.heap.IsTuple l vs := ⟨_, h1, h2, _, h3⟩
    cases rb with
    | none => exact RcNeAt.tuple_none hl (room_here hu)
    | @bool d i e => exact RcNeAt.tuple_bool d hl (room_here hu)
    | int y u => exact RcNeAt.tuple_int y u hl (room_here hu)
    | text y u => exact RcNeAt.tuple_str y u hl (room_here hu)
    | @tup l' o' vs' n' ys k1 k2 k3 k4 =>
      have hl' : s.heap.IsTuple l' vs' := ⟨_, k1, k2, _, k3⟩
      have n1 : vs.size = xs.length := by simpa using NestedAll.length _ _ h4
      have n2 : vs'.size = ys.length := by simpa using NestedAll.length _ _ k4
      show RcNeAt A s (.ref l) (.ref l') (!NestedKey.beqAll xs ys)
      rw [← beqAll_eq xs ys, ← n1, ← n2]
      refine RcNeAt.tuples hl hl' (room_here hu) fun j j1 j2 => ?_
      have := eqAt_keys xs ys A.in1 s vs.toList vs'.toList h4 k4 (room_in hu) j (by simpa using j1) (by simpa using j2)
      simpa using this

section
open PySem.Spec PyProof.Rows
theorem tupMul1 (l : Addr) (items : Array Value) (n : Nat) (dd : Option Addr) (sl : Array (Option Value)) (u : Tok) :
    Meets (Builtin.«tuple.__mul__» ⟨[.ref l, .int 1 u], []⟩) (fun _ R s => s.heap.get? l = some { cls := .type "tuple", dict := dd, data := .seq items n, slots := sl } ∧ R (.ok (.ret (Value.ref l))) s) :=
  .of_wp fun prog w A R s h => by
    obtain ⟨hp, g, d, tk, os⟩ := s
    obtain ⟨hl, h⟩ := h
    have f1 := AutoSeq1.idx_int
    have c1 : (items.isEmpty || (1 : Int) == 1) = true := by rw [show ((1 : Int) == 1) = true from rfl, Bool.or_true]
    wp_walk using wpAny_loadPart' hl
    repeat (first
      | (refine wpAny_ite_false (decide_eq_false (by decide)) ?_; wp_walk using wpAny_loadPart' hl)
      | (refine wpAny_ite_true (decide_eq_true (by rw [c1])) ?_; wp_walk using wpAny_loadPart' hl))
    exact ⟨_, rfl, h⟩
theorem tupMul0 (l : Addr) (items : Array Value) (n : Nat) (dd : Option Addr) (sl : Array (Option Value)) (u : Tok) (he : items.isEmpty = false) :
    Meets (Builtin.«tuple.__mul__» ⟨[.ref l, .int 0 u], []⟩) (fun _ R s => s.heap.get? l = some { cls := .type "tuple", dict := dd, data := .seq items n, slots := sl } ∧
      R (.ok (.ret (Value.ref s.heap.objs.size))) { s with heap := s.heap.push { cls := Value.type "tuple", data := Data.seq #[] }, toks := s.toks }) :=
  .of_wp fun prog w A R s h => by
    obtain ⟨hp, g, d, tk, os⟩ := s
    obtain ⟨hl, h⟩ := h
    have f1 := AutoSeq1.idx_int
    have c1 : (items.isEmpty || (0 : Int) == 1) = false := by rw [he]; rfl
    wp_walk using wpAny_loadPart' hl
    repeat (first
      | (refine wpAny_ite_false (decide_eq_false (by decide)) ?_; wp_walk using wpAny_loadPart' hl)
      | (refine wpAny_ite_false (decide_eq_false (by rw [c1]; exact Bool.false_ne_true)) ?_; wp_walk using wpAny_loadPart' hl)
      | (refine wpAny_ite_true (decide_eq_true (by simp)) ?_; wp_walk using wpAny_loadPart' hl))
    exact ⟨_, rfl, h⟩
def rRepZ (K : PySem.W.Frag) : R2 := fun x y H Q => ∃ l k xs, x = .ref l ∧ y = .int k ∧ SqT K H l xs ∧ xs ≠ [] ∧ ((k = 1 ∧ Q (.ref l) H) ∨ (k = 0 ∧ ∀ p, H p = none → Q (.ref p) (upd H p (.tup []))))
theorem op_repZ {X : Cx} : OpR X (binaryOp .Mult) (rRepZ X.K) := by
  intro pins s σ H x y v u Q I rx ry h
  obtain ⟨l, k, xs, rfl, rfl, hT, hne, h⟩ := h
  cases rx
  obtain ⟨t, rfl⟩ := ry
  obtain ⟨its, r, ⟨⟨cls, dd, data, sl⟩, ho, hc, n, hd⟩, hs⟩ := I.tuple hT
  simp only at hc hd
  subst hc hd
  have hle : its.length = xs.length := r.length.symm
  have hn : its ≠ [] := fun e => hne (by
    rw [e] at hle
    exact List.eq_nil_of_length_eq_zero hle.symm)
  have hi : its.toArray.isEmpty = false := by
    cases its with
    | nil => exact absurd rfl hn
    | cons a b => rfl
  rcases h with ⟨rfl, q⟩ | ⟨rfl, q⟩
  · refine wpAny_binaryOp_repeat_ref (T := "tuple") (U := "int") (by decide) ⟨_, ho, rfl⟩ (fun s' => typeIs_int s' 1 t) noFill_tuple_mul F.fills_int_mul F.slot_int_rmul repeat_tuple F.slot_int_index.lookup
      (call_meets F.slot_int_rmul (typeIs_int s 1 t) F.entry_int_rmul (F.args_int_rmul_2 _ _) (int_rmul_tuple 1 t l its.toArray n dd sl)
        ⟨ho, rfl, ⟨_, ho, rfl⟩, call_meets F.slot_tuple_mul ⟨_, ho, rfl⟩ F.entry_tuple_mul (F.args_tuple_mul_2 _ _) (tupMul1 l its.toArray n dd sl t) ⟨ho, ?_⟩⟩)
    exact ⟨.ref l, _, I, rfl, q⟩
  · refine wpAny_binaryOp_repeat_ref (T := "tuple") (U := "int") (by decide) ⟨_, ho, rfl⟩ (fun s' => typeIs_int s' 0 t) noFill_tuple_mul F.fills_int_mul F.slot_int_rmul repeat_tuple F.slot_int_index.lookup
      (call_meets F.slot_int_rmul (typeIs_int s 0 t) F.entry_int_rmul (F.args_int_rmul_2 _ _) (int_rmul_tuple 0 t l its.toArray n dd sl)
        ⟨ho, rfl, ⟨_, ho, rfl⟩, call_meets F.slot_tuple_mul ⟨_, ho, rfl⟩ F.entry_tuple_mul (F.args_tuple_mul_2 _ _) (tupMul0 l its.toArray n dd sl t hi) ⟨ho, ?_⟩⟩)
    refine ⟨.ref s.heap.objs.size, _, I.laid (t' := s.toks) (o := .tup []) (fun b ob q => Heap.get?_push_of_some _ q) (Nat.le_refl _) ?_, rfl, q _ (I.hok.fresh (Nat.le_refl _))⟩
    exact ⟨Nat.zero_le _, [], .nil, IsTup.new _ _⟩
end
section
variable {ca : Nat → Addr} {X : Cx} {M0 M : Mp} {pins : List (Addr × Obj)} {σ3 : Lo} {σ : L2.St} {H : Hp} {s : Shared}
/-- the context's own -/
abbrev ct (X : Cx) (ca : Nat → Addr) : Ct := ⟨X.prog, X.w, X.K, ca⟩
/-- what a rule by values is to reach -/
def QV (C : Ct) (H : Hp) (M : Mp) (Q : Post) : VK := fun v H' => ∃ d M', RM C H' M' ∧ Stp H M H' M' ∧ RD C H' d v ∧ Q d M'
theorem ep_of {Q : Post} (I : I3 (ct X ca) X M0 pins σ3 M σ H s) {u : Value} {s' : Shared} (h : EP X pins σ (QV (ct X ca) H M Q) u s') : EP3 (ct X ca) X M0 pins σ3 σ H M Q u s' := by
  obtain ⟨v, H', J, r, d, M', rm, st, rd, q⟩ := h
  exact ⟨d, M', v, H', I.to J rm st, r, rd, st, q⟩
theorem ep_now {Q : Post} (I : I3 (ct X ca) X M0 pins σ3 M σ H s) {s' : Shared} (J : Inv X pins σ H s') {u : Value} {v : V} {d : D} (r : RelV v u) (rd : RD (ct X ca) H d v) (q : Q d M) : EP3 (ct X ca) X M0 pins σ3 σ H M Q u s' :=
  ⟨d, M, v, H, I.same J, r, rd, Stp.refl, q⟩
theorem ep_after {Q : Post} {M1 : Mp} {H1 : Hp} {u : Value} {s' : Shared} (st : Stp H M H1 M1) (h : EP3 (ct X ca) X M0 pins σ3 σ H1 M1 Q u s') : EP3 (ct X ca) X M0 pins σ3 σ H M Q u s' := by
  obtain ⟨d, M', v, H', I, r, rd, st', q⟩ := h
  exact ⟨d, M', v, H', I, r, rd, st.trans st', q⟩
theorem qv_now {C : Ct} {Q : Post} {v : V} {d : D} (r : RM C H M) (rd : RD C H d v) (q : Q d M) : QV C H M Q v H := ⟨d, M, r, Stp.refl, rd, q⟩
theorem qv_int {C : Ct} {Q : Post} {i : Int} (r : RM C H M) (q : Q (.int i) M) : QV C H M Q (.int i) H := ⟨.int i, M, r, Stp.refl, rfl, q⟩
theorem qv_bl {C : Ct} {Q : Post} {i : Bool} (r : RM C H M) (q : Q (.bl i) M) : QV C H M Q (.bl i) H := ⟨.bl i, M, r, Stp.refl, rfl, q⟩
theorem qv_str {C : Ct} {Q : Post} {i : Str} (r : RM C H M) (q : Q (.str i) M) : QV C H M Q (.str i) H := ⟨.str i, M, r, Stp.refl, rfl, q⟩
theorem qv_non {C : Ct} {Q : Post} (r : RM C H M) (q : Q .non M) : QV C H M Q .non H := ⟨.non, M, r, Stp.refl, rfl, q⟩
theorem qv_new {C : Ct} {Q : Post} {p : Addr} {o : HO} {m : MO} (r : RM C H M) (hp : H p = none) (ro : RO C H p m o) (q : wpNew M m Q) : QV C H M Q (.ref p) (upd H p o) :=
  ⟨.ref p, mset M p m, r.new hp (ro.keep (tupK_new hp)), mset_stp hp, rfl, q p (r.free hp)⟩
/-- a new tuple -/
theorem qv_tup {C : Ct} {Q : Post} {p : Addr} {xs : List V} {ds : List D} (r : RM C H M) (hp : H p = none) (rd : RDs C H ds xs) (q : Q (.tup ds) M) : QV C H M Q (.ref p) (upd H p (.tup xs)) :=
  ⟨.tup ds, M, r.new0 hp, upd_stp hp, ⟨p, xs, rfl, .inl upd_same, RDs.keep (tupK_new hp) rd⟩, q⟩

/-- a two-place operation by values -/
def Op3 (ca : Nat → Addr) (X : Cx) (f : Value → Value → Sem Value) (w : D → D → Mp → Post → Prop) : Prop :=
  ∀ (pins : List (Addr × Obj)) (s : Shared) (σ : L2.St) (H : Hp) (M0 M : Mp) (σ3 : Lo) (x y : D) (a b : V) (v u : Value) (Q : Post), I3 (ct X ca) X M0 pins σ3 M σ H s → RelV a v → RelV b u → RD (ct X ca) H x a → RD (ct X ca) H y b → w x y M Q →
    wpAny (model X.prog X.w) X.A (f v u) (EP3 (ct X ca) X M0 pins σ3 σ H M Q) X.xe s
theorem op3_of {f : Value → Value → Sem Value} {w : D → D → Mp → Post → Prop} {r : R2} (ho : OpR X f r)
    (h : ∀ (H : Hp) (M : Mp) (x y : D) (a b : V) (Q : Post), RM (ct X ca) H M → RD (ct X ca) H x a → RD (ct X ca) H y b → w x y M Q → r a b H (QV (ct X ca) H M Q)) : Op3 ca X f w :=
  fun pins s σ H M0 M σ3 x y a b v u Q I ra rb hx hy hw => thn (ho pins s σ H a b v u _ I.inv ra rb (h H M x y a b Q I.hp hx hy hw)) fun _ _ q => ep_of I q

theorem o_sub : Op3 ca X (binaryOp .Sub) (wpBin .sub) := op3_of op_sub fun H M x y a b Q r hx hy h => by
  cases x with
  | int i => cases y with
    | int j => exact ⟨i, j, hx, hy, qv_int r h⟩
    | _ => exact h.elim
  | _ => exact h.elim
theorem o_mulI : Op3 ca X (binaryOp .Mult) (fun x y M Q => ((∀ z, x ≠ .str z) ∧ (∀ a, x ≠ .ref a) ∧ ∀ ds, x ≠ .tup ds) ∧ wpBin .mul x y M Q) := op3_of op_mul fun H M x y a b Q r hx hy ⟨hz, h⟩ => by
  cases x with
  | int i => cases y with
    | int j => exact ⟨i, j, hx, hy, h.1, qv_int r h.2⟩
    | _ => exact h.elim
  | str z => exact absurd rfl (hz.1 z)
  | ref z => exact absurd rfl (hz.2.1 z)
  | tup z => exact absurd rfl (hz.2.2 z)
  | _ => exact h.elim
theorem o_mulL : Op3 ca X (binaryOp .Mult) (fun x y M Q => (∃ a, x = .ref a) ∧ wpBin .mul x y M Q) := op3_of op_rep fun H M x y a b Q r hx hy ⟨⟨p, e⟩, h⟩ => by
  subst e
  cases y with
  | int n =>
    have h' : (match M p with | some (.lst xs) => ((-(2 ^ 62) ≤ n ∧ n < 2 ^ 62) ∧ xs.length * n.toNat ≤ sizeLine) ∧ wpNew M (.lst (List.replicate n.toNat xs).flatten) Q | _ => False) := h
    cases e1 : M p with
    | none => rw [e1] at h'; exact h'.elim
    | some o1 =>
      rw [e1] at h'
      cases o1 with
      | lst ds =>
        obtain ⟨xs, g1, g2⟩ := r.lst e1
        obtain ⟨⟨⟨h1, h2⟩, h3⟩, q⟩ := h'
        refine ⟨p, n, xs, hx, hy, g1, by omega, by omega, by rw [← g2.length]; exact h3, fun k hk => qv_new r hk (m := .lst (List.replicate n.toNat ds).flatten) ?_ q⟩
        have : ∀ k : Nat, RDs (ct X ca) (upd H k (.lst [])) [] [] := fun _ => rfl
        show RDs (ct X ca) H (List.replicate n.toNat ds).flatten (List.replicate n.toNat xs).flatten
        induction n.toNat with
        | zero => exact rfl
        | succ k ih =>
          rw [List.replicate_succ, List.replicate_succ, List.flatten_cons, List.flatten_cons]
          exact RDs.append g2 ih
      | _ => exact h'.elim
  | _ => exact h.elim
theorem rds_rep {C : Ct} {H : Hp} {ds : List D} {xs : List V} (h : RDs C H ds xs) : ∀ n : Nat, RDs C H (List.replicate n ds).flatten (List.replicate n xs).flatten
  | 0 => rfl
  | n + 1 => by
    rw [List.replicate_succ, List.replicate_succ, List.flatten_cons, List.flatten_cons]
    exact RDs.append h (rds_rep h n)
theorem o_mulT : Op3 ca X (binaryOp .Mult) (fun x y M Q => (∃ ds, x = .tup ds) ∧ wpBin .mul x y M Q) := op3_of (OpR.or op_repT op_repZ) fun H M x y a b Q r hx hy ⟨⟨ds, e⟩, h⟩ => by
  subst e
  cases y with
  | int n =>
    obtain ⟨⟨h1, h2, h3, h4⟩, q⟩ := h
    obtain ⟨l, xs, rfl, sq, rs⟩ := hx
    have len := rs.length
    have ne : xs ≠ [] := fun e => h1 (List.eq_nil_of_length_eq_zero (by rw [len, e]; rfl))
    have hy : b = .int n := hy
    subst hy
    by_cases e1 : n = 1
    · subst e1
      refine .inr ⟨l, 1, xs, rfl, rfl, sq.sq, ne, .inl ⟨rfl, .tup ds, M, r, Stp.refl, ⟨l, xs, rfl, sq, rs⟩, ?_⟩⟩
      have : (List.replicate (1 : Int).toNat ds).flatten = ds := by simp
      rw [this] at q
      exact q
    · by_cases e0 : n = 0
      · subst e0
        exact .inr ⟨l, 0, xs, rfl, rfl, sq.sq, ne, .inr ⟨rfl, fun p hp => qv_tup (ds := []) r hp rfl q⟩⟩
      · exact .inl ⟨l, n, xs, rfl, rfl, sq.sq, ne, by omega, h3, by omega, fun p hp => qv_tup r hp (rds_rep rs _) q⟩
  | _ => exact h.elim
theorem o_mul : Op3 ca X (binaryOp .Mult) (wpBin .mul) := by
  intro pins s σ H M0 M σ3 x y a b v u Q I ra rb hx hy h
  cases x with
  | str z => cases y with
    | int n =>
      have e1 : a = .str z := hx
      have e2 : b = .int n := hy
      subst e1 e2
      obtain ⟨t, rfl⟩ := ra
      obtain ⟨t', rfl⟩ := rb
      exact SB.mul h.1 fun t2 k => ep_now (v := .str (Txt.mul z n)) (d := .str (Txt.mul z n)) I (I.inv.tok k) ⟨_, rfl⟩ rfl h.2
    | _ => exact h.elim
  | ref z => exact o_mulL pins s σ H M0 M σ3 _ y a b v u Q I ra rb hx hy ⟨⟨z, rfl⟩, h⟩
  | tup z => exact o_mulT pins s σ H M0 M σ3 _ y a b v u Q I ra rb hx hy ⟨⟨z, rfl⟩, h⟩
  | _ => exact o_mulI pins s σ H M0 M σ3 _ y a b v u Q I ra rb hx hy ⟨⟨(fun _ e => nomatch e), (fun _ e => nomatch e), (fun _ e => nomatch e)⟩, h⟩
theorem o_fdiv : Op3 ca X (binaryOp .FloorDiv) (wpBin .fdiv) := op3_of op_fdiv fun H M x y a b Q r hx hy h => by
  cases x with
  | int i => cases y with
    | int j => exact ⟨i, j, hx, hy, h.1, qv_int r h.2⟩
    | _ => exact h.elim
  | _ => exact h.elim
theorem o_mod : Op3 ca X (binaryOp .Mod) (wpBin .mod) := op3_of op_mod fun H M x y a b Q r hx hy h => by
  cases x with
  | int i => cases y with
    | int j => exact ⟨i, j, hx, hy, h.1, qv_int r h.2⟩
    | _ => exact h.elim
  | _ => exact h.elim
theorem o_pow : Op3 ca X (binaryOp .Pow) (wpBin .pow) := op3_of op_pow fun H M x y a b Q r hx hy h => by
  cases x with
  | int i => cases y with
    | int j => exact ⟨i, j, hx, hy, h.1, qv_int r h.2⟩
    | _ => exact h.elim
  | _ => exact h.elim
theorem o_shl : Op3 ca X (binaryOp .LShift) (wpBin .shl) := op3_of op_shlW fun H M x y a b Q r hx hy h => by
  cases x with
  | int i => cases y with
    | int j =>
      obtain ⟨⟨h1, h2, h3⟩, q⟩ := h
      obtain ⟨n, rfl⟩ := Int.eq_ofNat_of_zero_le h1
      exact ⟨i, n, hx, hy, shl_ok (n := 1000) h3 (by omega), qv_int r q⟩
    | _ => exact h.elim
  | _ => exact h.elim
theorem o_shr : Op3 ca X (binaryOp .RShift) (wpBin .shr) := op3_of op_shr fun H M x y a b Q r hx hy h => by
  cases x with
  | int i => cases y with
    | int j => exact ⟨i, j, hx, hy, h.1, qv_int r h.2⟩
    | _ => exact h.elim
  | _ => exact h.elim
/-- the ways of + -/
theorem op_add3 : OpR X (binaryOp .Add) (fun x y H Q => rI0 (fun i j => .int (i + j)) x y H Q ∨ (∃ i j, x = .str i ∧ y = .str j ∧ i.length + j.length ≤ sizeLine ∧ Q (.str (i ++ j)) H) ∨ rCatA X.K x y H Q ∨ rCat x y H Q) :=
  OpR.or op_add (OpR.or op_add_str (OpR.or op_catA op_cat))
theorem o_add : Op3 ca X (binaryOp .Add) (wpBin .add) := op3_of op_add3 fun H M x y a b Q r hx hy h => by
  cases x with
  | int i => cases y with
    | int j => exact .inl ⟨i, j, hx, hy, qv_int r h⟩
    | _ => exact h.elim
  | str i => cases y with
    | str j => exact .inr (.inl ⟨i, j, hx, hy, h.1, qv_str r h.2⟩)
    | _ => exact h.elim
  | tup ds => cases y with
    | tup es =>
      obtain ⟨p, xs, rfl, h1, h2⟩ := hx
      obtain ⟨q, ys, rfl, h3, h4⟩ := hy
      refine .inr (.inr (.inl ⟨p, q, xs, ys, rfl, rfl, h1.sq, h3.sq, by rw [← h2.length, ← h4.length]; exact h.1, fun e => ?_, fun e1 e2 => ?_, fun _ _ n hn => ?_⟩))
      · subst e
        cases ds with
        | nil => exact qv_now (d := .tup es) r ⟨q, ys, rfl, h3, h4⟩ h.2
        | cons d ds => obtain ⟨_, _, e, _⟩ := h2; cases e
      · subst e2
        cases es with
        | nil =>
          have h5 : Q (.tup (ds ++ [])) M := h.2
          rw [List.append_nil] at h5
          exact qv_now (d := .tup ds) r ⟨p, xs, rfl, h1, h2⟩ h5
        | cons d es => obtain ⟨_, _, e, _⟩ := h4; cases e
      · exact qv_tup r hn (RDs.append h2 h4) h.2
    | _ => exact h.elim
  | ref p => cases y with
    | ref q =>
      have h' : (match M p, M q with | some (.lst xs), some (.lst ys) => xs.length + ys.length ≤ sizeLine ∧ wpNew M (.lst (xs ++ ys)) Q | _, _ => False) := h
      cases e1 : M p with
      | none => rw [e1] at h'; exact h'.elim
      | some o1 => cases e2 : M q with
        | none => rw [e1, e2] at h'; cases o1 <;> exact h'.elim
        | some o2 =>
          rw [e1, e2] at h'
          cases o1 with
          | lst ds => cases o2 with
            | lst es =>
              obtain ⟨xs, g1, g2⟩ := r.lst e1
              obtain ⟨ys, g3, g4⟩ := r.lst e2
              exact .inr (.inr (.inr ⟨p, q, xs, ys, hx, hy, g1, g3, by rw [← g2.length, ← g4.length]; exact h'.1, fun n hn => qv_new r hn (m := .lst (ds ++ es)) (RDs.append g2 g4) h'.2⟩))
            | _ => exact h'.elim
          | _ => cases o2 <;> exact h'.elim
    | _ => exact h.elim
  | _ => exact h.elim
def bop : BOp → Operator
  | .add => .Add
  | .sub => .Sub
  | .mul => .Mult
  | .fdiv => .FloorDiv
  | .mod => .Mod
  | .pow => .Pow
  | .shl => .LShift
  | .shr => .RShift
theorem o_bin (o : BOp) : Op3 ca X (binaryOp (bop o)) (wpBin o) := by
  cases o with
  | add => exact o_add
  | sub => exact o_sub
  | mul => exact o_mul
  | fdiv => exact o_fdiv
  | mod => exact o_mod
  | pow => exact o_pow
  | shl => exact o_shl
  | shr => exact o_shr
/-- x op= y of a name: + and - of ints, + of texts, // of ints .. (no list, which would be changed in place) -/
theorem iop_all3 : OpR X (inplaceOp .Add) (fun x y H Q => rI0 (fun i j => .int (i + j)) x y H Q ∨ (∃ i j, x = .str i ∧ y = .str j ∧ i.length + j.length ≤ sizeLine ∧ Q (.str (i ++ j)) H)) := OpR.or iop_add iop_add_str
theorem o_inp (o : BOp) : Op3 ca X (inplaceOp (bop o)) (wpInp o) := by
  cases o with
  | add =>
    refine op3_of iop_all3 fun H M x y a b Q r hx hy h => ?_
    cases x with
    | int i => cases y with
      | int j => exact .inl ⟨i, j, hx, hy, qv_int r h⟩
      | _ => exact h.elim
    | str i => cases y with
      | str j => exact .inr ⟨i, j, hx, hy, h.1, qv_str r h.2⟩
      | _ => exact h.elim
    | _ => exact h.elim
  | sub =>
    refine op3_of iop_sub fun H M x y a b Q r hx hy h => ?_
    cases x with
    | int i => cases y with
      | int j => exact ⟨i, j, hx, hy, qv_int r h⟩
      | _ => exact h.elim
    | _ => exact h.elim
  | mul =>
    refine op3_of iop_mul fun H M x y a b Q r hx hy h => ?_
    cases x with
    | int i => cases y with
      | int j => exact ⟨i, j, hx, hy, h.1, qv_int r h.2⟩
      | _ => exact h.elim
    | _ => exact h.elim
  | fdiv =>
    refine op3_of iop_fdiv fun H M x y a b Q r hx hy h => ?_
    cases x with
    | int i => cases y with
      | int j => exact ⟨i, j, hx, hy, h.1, qv_int r h.2⟩
      | _ => exact h.elim
    | _ => exact h.elim
  | _ =>
    intro pins s σ H M0 M σ3 x y a b v u Q I ra rb hx hy h
    cases x <;> cases y <;> exact False.elim h
end
end L3
end
section
set_option autoImplicit false
set_option linter.all false
set_option maxRecDepth 100000
/-! L3: dicts of ints and texts -/
namespace L3
open PySem L2 PyProof.Rows

abbrev PD (C : Ct) (H : Hp) (kvs : List (D × D)) (ks : List (Key × V)) : Prop := Paired (fun (p : D × D) (q : Key × V) => KRel p.1 q.1 ∧ RD C H p.2 q.2) kvs ks
theorem key_rd {C : Ct} {H : Hp} {x : D} {v : V} (r : RD C H x v) (h : x.hk1 = true) : ∃ k : Key, v = kV k ∧ KRel x k := by
  cases x with
  | int i => exact ⟨.inl i, r, rfl⟩
  | str z => exact ⟨.inr z, r, rfl⟩
  | _ => cases h
theorem rd_key {C : Ct} {H : Hp} {x : D} {k : Key} (h : KRel x k) : RD C H x (kV k) := by
  cases x with
  | int i => cases k with
    | inl j => exact (show kV (.inl j) = V.int i from by rw [show i = j from h]; rfl)
    | inr y => exact h.elim
  | str z => cases k with
    | inl j => exact h.elim
    | inr y => exact (show kV (.inr y) = V.str z from by rw [show z = y from h]; rfl)
  | _ => cases k <;> exact h.elim
theorem KRel.hk {x : D} {k : Key} (h : KRel x k) : x.hk1 = true := by
  cases x with
  | int i => rfl
  | str z => rfl
  | _ => cases k <;> exact h.elim
theorem eqv_key {x y : D} {a b : Key} (hx : KRel x a) (hy : KRel y b) : x.eqv y = decide (a = b) := by
  cases x with
  | int i => cases a with
    | inl i' =>
      cases hx
      cases y with
      | int j => cases b with
        | inl j' =>
          cases hy
          show NestedKey.beq (.num i) (.num j) = _
          simp [NestedKey.beq]
        | inr _ => exact hy.elim
      | str z => cases b with
        | inl _ => exact hy.elim
        | inr z' =>
          cases hy
          show NestedKey.beq (.num i) (.text z) = _
          simp [NestedKey.beq]
      | _ => cases b <;> exact hy.elim
    | inr _ => exact hx.elim
  | str s => cases a with
    | inl _ => exact hx.elim
    | inr s' =>
      cases hx
      cases y with
      | int j => cases b with
        | inl j' =>
          cases hy
          show NestedKey.beq (.text s) (.num j) = _
          simp [NestedKey.beq]
        | inr _ => exact hy.elim
      | str z => cases b with
        | inl _ => exact hy.elim
        | inr z' =>
          cases hy
          show NestedKey.beq (.text s) (.text z) = _
          simp only [NestedKey.beq]
          by_cases e : s = z
          · subst e; simp
          · simp [e]
      | _ => cases b <;> exact hy.elim
  | _ => cases a <;> exact hx.elim
section
variable {C : Ct} {H : Hp}
theorem dget_val {x : D} {k : Key} (hx : KRel x k) : ∀ {kvs : List (D × D)} {ks : List (Key × V)}, PD C H kvs ks → (∀ d, dget kvs x = some d → ∃ v, valV ks k = some v ∧ RD C H d v) ∧ dhas kvs x = (valV ks k).isSome
  | _, _, .nil => ⟨fun d e => (nomatch e), rfl⟩
  | _, _, .cons (a := p) (b := q) r t => by
    obtain ⟨h1, h2⟩ := dget_val hx t
    have e := eqv_key r.1 hx
    by_cases hk : q.1 = k
    · rw [decide_eq_true hk] at e
      refine ⟨fun d hd => ?_, ?_⟩
      · simp only [dget, List.find?_cons, e] at hd
        cases hd
        exact ⟨q.2, valV_pos hk, r.2⟩
      · simp only [dhas, List.any_cons, e, Bool.true_or]
        rw [valV_pos hk]
        rfl
    · rw [decide_eq_false hk] at e
      refine ⟨fun d hd => ?_, ?_⟩
      · simp only [dget, List.find?_cons, e] at hd
        rw [valV_neg hk]
        exact h1 d hd
      · simp only [dhas, List.any_cons, e, Bool.false_or]
        rw [valV_neg hk]
        exact h2
theorem pd_map {x d : D} {k : Key} {v : V} (hx : KRel x k) (rd : RD C H d v) : ∀ {kvs : List (D × D)} {ks : List (Key × V)}, PD C H kvs ks → PD C H (kvs.map fun p => if p.1.eqv x then (p.1, d) else p) (ks.map fun kv => if kv.1 = k then (kv.1, v) else kv)
  | _, _, .nil => .nil
  | _, _, .cons (a := p) (b := q) r t => by
    refine .cons ?_ (pd_map hx rd t)
    have e := eqv_key r.1 hx
    show KRel (if p.1.eqv x = true then (p.1, d) else p).1 (if q.1 = k then (q.1, v) else q).1 ∧ RD C H (if p.1.eqv x = true then (p.1, d) else p).2 (if q.1 = k then (q.1, v) else q).2
    by_cases hk : q.1 = k
    · rw [e, if_pos (decide_eq_true hk), if_pos hk]
      exact ⟨r.1, rd⟩
    · rw [e, if_neg (by rw [decide_eq_false hk]; exact Bool.false_ne_true), if_neg hk]
      exact r
theorem pd_app : ∀ {kvs : List (D × D)} {ks : List (Key × V)} {kvs' : List (D × D)} {ks' : List (Key × V)}, PD C H kvs ks → PD C H kvs' ks' → PD C H (kvs ++ kvs') (ks ++ ks')
  | _, _, _, _, .nil, h => h
  | _, _, _, _, .cons r t, h => .cons r (pd_app t h)
theorem pd_put {x d : D} {k : Key} {v : V} (hx : KRel x k) (rd : RD C H d v) {kvs : List (D × D)} {ks : List (Key × V)} (h : PD C H kvs ks) : PD C H (dput kvs x d) (putK ks k v) := by
  have hh := (dget_val hx h).2
  unfold dput putK
  rw [hh]
  have e : (ks.any fun kv => decide (kv.1 = k)) = (valV ks k).isSome := valV_any k ks
  rw [e]
  cases q : (valV ks k).isSome with
  | true => simp only [if_true]; exact pd_map hx rd h
  | false =>
    simp only [Bool.false_eq_true, if_false]
    exact pd_app h (.cons ⟨hx, rd⟩ .nil)
theorem PD.len {kvs : List (D × D)} {ks : List (Key × V)} (h : PD C H kvs ks) : kvs.length = ks.length := Paired.length h
theorem PD.keep {H' : Hp} (k : TupK H H') {kvs : List (D × D)} {ks : List (Key × V)} (h : PD C H kvs ks) : PD C H' kvs ks := Paired.mapP h fun _ _ q => ⟨q.1, q.2.keep k⟩
theorem pd_get {kvs : List (D × D)} {ks : List (Key × V)} (h : PD C H kvs ks) {i : Nat} {p : D × D} (e : kvs[i]? = some p) : ∃ q, ks[i]? = some q ∧ KRel p.1 q.1 ∧ RD C H p.2 q.2 := paired_get h e
theorem pd_keys : ∀ {kvs : List (D × D)} {ks : List (Key × V)}, PD C H kvs ks → RDs C H (kvs.map (·.1)) (ks.map fun q => kV q.1)
  | _, _, .nil => rfl
  | _, _, .cons r t => ⟨_, _, rfl, rd_key r.1, pd_keys t⟩
theorem pd_vals : ∀ {kvs : List (D × D)} {ks : List (Key × V)}, PD C H kvs ks → RDs C H (kvs.map (·.2)) (ks.map (·.2))
  | _, _, .nil => rfl
  | _, _, .cons r t => ⟨_, _, rfl, r.2, pd_vals t⟩
end
/-- the record's entries, by their values -/
theorem entries_vals {P : Program} {w : World} : ∀ {es : List DictEntry} {vs : List (Key × Value)} {ks : List (Key × V)}, Pairs (mixKind P w) es vs → KV ks vs → Vals (ks.map fun q => kV q.1) (es.map (·.key)) ∧ Vals (ks.map (·.2)) (es.map (·.val))
  | _, _, _, .nil, h => by cases h; exact ⟨.nil, .nil⟩
  | _, _, _, .cons h1 h2 t, h => by
    cases h with
    | cons r t2 =>
      obtain ⟨a, b⟩ := entries_vals t t2
      refine ⟨.cons ?_ a, .cons ?_ b⟩
      · show RelV (kV _) _
        rw [r.1]
        exact relV_key h1
      · show RelV _ (DictEntry.val _)
        rw [h2]
        exact r.2
section
variable {ca : Nat → Addr} {X : Cx} {M0 M : Mp} {pins : List (Addr × Obj)} {σ3 : Lo} {σ : L2.St} {H : Hp} {s : Shared}
theorem tail_dict {value slice : Expr} {o i : Value} {Q : Value → Shared → Prop} (hT : s.TypeIs o "dict") (hs : subscripted slice false o i = operate [o, i] (getItem o i)) (h : wpAny (model X.prog X.w) X.A (getItem o i) Q X.xe s) :
    wpAny (model X.prog X.w) X.A (subscriptTail value slice o i) Q X.xe s := by
  unfold subscriptTail
  refine wpAny_bind ?_
  rw [getitemInPython_of_ne hT.not_modules]
  refine wpAny_bind (wpAny_specialOf hT PySem.F.slot_dict_getitem.lookup ?_)
  have last : wpAny (model X.prog X.w) X.A (subscripted slice false o i) (fun r s' => wpAny (model X.prog X.w) X.A (letTemporaryGo value o r >>= fun _ => pure r) Q X.xe s') X.xe s := by
    rw [hs]
    exact wpAny_operating (thn h fun r s' q => wpAny_bind (wpAny_letTemporaryGo (wpAny_pure q)))
  first
    | exact wpAny_pure (wpAny_bind last)
    | exact wpAny_bind (wpAny_pure (wpAny_bind last))
    | exact wpAny_bind last
theorem I3.dictAt (I : I3 (ct X ca) X M0 pins σ3 M σ H s) {a : Addr} {kvs : List (D × D)} (h : M a = some (.dct kvs)) : ∃ ks : List (Key × V), H a = some (.dK ks) ∧ PD (ct X ca) H kvs ks ∧ s.TypeIs (.ref a) "dict" := by
  obtain ⟨ks, e, p⟩ := I.hp.dct h
  obtain ⟨_, _, vs, _, dd⟩ := dk_rd I.inv.hok (.inl e)
  exact ⟨ks, e, p, dd.typeIs⟩
theorem I3.lckAt (I : I3 (ct X ca) X M0 pins σ3 M σ H s) {a : Addr} {kvs : List (D × D)} (h : M a = some (.lck kvs)) : ∃ (ob : Obj) (ks : List (Key × V)), H a = some (.frz ob (.dK ks)) ∧ PD (ct X ca) H kvs ks ∧ s.TypeIs (.ref a) "dict" := by
  obtain ⟨ob, ks, e, p⟩ := I.hp.lck h
  obtain ⟨_, _, vs, _, dd⟩ := dk_rd I.inv.hok (.inr ⟨ob, e⟩)
  exact ⟨ob, ks, e, p, dd.typeIs⟩
end
end L3
end
section
set_option autoImplicit false
set_option linter.all false
set_option maxRecDepth 100000
/-! L3: dicts whose keys are tuples -/
namespace L3
open PySem L2 PyProof.Rows

section
variable {prog : Program} {w : World} {A : Around} {E : Value → Shared → Prop} {s : Shared} {d : Addr} {es : Array DictEntry} {ep : Nat}
theorem len_bodyR {Q : Value → Shared → Prop} (hd : (d == sysModules) = false) (hm : s.heap.DictRaw d es ep) (hfit : (es.size : Int) < 2 ^ 63)
    (h : Q (.int es.size (s.toks + 1)) { s with toks := s.toks + 1 + 1 }) : wpAny (model prog w) A (Builtin.«len» ⟨[.ref d], []⟩) (fun fin s' => ∃ r, fin = .done (.ret r) ∧ Q r s') E s := by
  unfold Builtin.«len»
  refine wpAny_bind (m := oneArg "len" _) (wpAny_pure ?_)
  refine wpAny_bind (m := callSpecial? (.ref d) (Str.ofString "__len__")) (wpAny_callSpecial?_slot (name := Str.ofString "__len__") hm.typeIs F.slot_dict_len
    (call_meetsIn F.slot_dict_len hm.typeIs F.entry_dict_len (F.args_dict_len_1 _) (meets_dict_len_raw d hd) ⟨es, ep, hm, ?_⟩))
  show wpAny _ _ _ _ _ { s with toks := s.toks + 1 }
  refine wpAny_bind (wpAny_holding (wpAny_pure ?_))
  refine wpAny_bind (wpAny_letGo ?_)
  show wpAny _ _ (if ((es.size : Nat) : Int) < 0 then _ else _) _ _ _
  rw [if_neg (by omega)]
  show wpAny _ _ (if ((es.size : Nat) : Int) ≥ 2 ^ 63 then _ else _) _ _ _
  rw [if_neg (by omega)]
  exact wpAny_bind (wpAny_mkInt (wpAny_pure ⟨_, rfl, h⟩))
theorem call_lenR {Q : Value → Shared → Prop} (hd : (d == sysModules) = false) (hm : s.heap.DictRaw d es ep) (hfit : (es.size : Int) < 2 ^ 63)
    (h : Q (.int es.size (s.toks + 1)) { s with toks := s.toks + 1 + 1 }) : wpAny (model prog w) A (call (.builtin "len") [.ref d]) Q E s :=
  Calls.call_function_entry kind_len plain_len entry_len (args_len1 _) (len_bodyR hd hm hfit h)
theorem truthy_dictR {Q : Bool → Shared → Prop} (hd : (d == sysModules) = false) (hm : s.heap.DictRaw d es ep) (hfit : (es.size : Int) < 2 ^ 63)
    (h : Q (!es.isEmpty) { s with toks := s.toks + 1 + 1 }) : wpAny (model prog w) A (PySem.truthy (.ref d)) Q E s := by
  have hne : ((es.size : Int) != 0) = !es.isEmpty := by
    have : es.isEmpty = decide (es.size = 0) := rfl
    rw [this]
    by_cases e : es.size = 0
    · simp [e]
    · have : ((es.size : Int) != 0) = true := bne_iff_ne.mpr (by omega)
      rw [this]; simp [e]
  have key : wpAny (model prog w) A (runValue (.builtin "len" ⟨[.ref d], []⟩)) (fun r s' => r = .int es.size (s.toks + 1) ∧ Q (!es.isEmpty) s') E s := by
    refine wpAny_runValue (codeAny_builtin entry_len ?_)
    rw [Around.under_plainId plain_len _]
    exact wpAny_mono (len_bodyR (Q := fun r s' => r = .int es.size (s.toks + 1) ∧ Q (!es.isEmpty) s') hd hm hfit ⟨rfl, h⟩)
      (fun fin s' h' => by obtain ⟨r, rfl, hq⟩ := h'; exact hq) fun _ _ e => e
  unfold PySem.truthy
  first
    | refine wpAny_bind (wpAny_callSpecial?_none (name := Str.ofString "__bool__") hm.typeIs noBool_dict ?_)
    | refine wpAny_bind (wpAny_pure (wpAny_bind (wpAny_callSpecial?_none (name := Str.ofString "__bool__") hm.typeIs noBool_dict ?_)))
  first
    | refine wpAny_bind (wpAny_specialOf (name := Str.ofString "__len__") hm.typeIs F.slot_dict_len.lookup ?_)
    | refine wpAny_bind (wpAny_pure (wpAny_bind (wpAny_specialOf (name := Str.ofString "__len__") hm.typeIs F.slot_dict_len.lookup ?_)))
  first
    | exact wpAny_bind (wpAny_mono key (fun r s' h' => by obtain ⟨rfl, hq⟩ := h'; exact wpAny_pure (hne ▸ hq)) fun _ _ e => e)
    | exact wpAny_bind (wpAny_pure (wpAny_bind (wpAny_mono key (fun r s' h' => by obtain ⟨rfl, hq⟩ := h'; exact wpAny_pure (hne ▸ hq)) fun _ _ e => e)))
end
theorem eqv_dec (x y : D) : x.eqv y = decide (x.key = y.key) := (NestedKey.decide_eq _ _).symm
theorem hkT_is {x : D} (h : x.hkT = true) : x.pure = true ∧ x.key.depth ≤ 8 := by
  cases x with
  | tup ds =>
    have h' : (D.pures ds && decide ((D.tup ds).key.depth ≤ 8)) = true := h
    rw [Bool.and_eq_true] at h'
    exact ⟨h'.1, of_decide_eq_true h'.2⟩
  | kt ds =>
    have h' : (D.pures ds && decide ((D.kt ds).key.depth ≤ 8)) = true := h
    rw [Bool.and_eq_true] at h'
    exact ⟨h'.1, of_decide_eq_true h'.2⟩
  | _ => cases h
theorem hkT_ref {C : Ct} {H : Hp} {x : D} {v : V} (r : RD C H x v) (h : x.hkT = true) : ∃ b, v = .ref b := by
  cases x with
  | tup ds => obtain ⟨a, xs, e, _⟩ := r; exact ⟨a, e⟩
  | kt ds => obtain ⟨a, xs, e, _⟩ := r; exact ⟨a, e⟩
  | _ => cases h
/-! ### entries -/
abbrev XU : List (NestedKey × Addr × V) → List (NestedKey × Addr × Value) → Prop := Paired fun p q => p.1 = q.1 ∧ p.2.1 = q.2.1 ∧ RelV p.2.2 q.2.2
def valN (xs : List (NestedKey × Addr × V)) (k : NestedKey) : Option V := (xs.find? fun x => decide (x.1 = k)).map (·.2.2)
def storN (xs : List (NestedKey × Addr × V)) (k : NestedKey) (b : Addr) (v : V) : List (NestedKey × Addr × V) :=
  if (valN xs k).isSome then xs.map (fun x => if x.1 = k then (x.1, x.2.1, v) else x) else xs ++ [(k, b, v)]
def dropN (xs : List (NestedKey × Addr × V)) (k : NestedKey) : List (NestedKey × Addr × V) := xs.filter fun x => decide (x.1 ≠ k)
theorem valN_pos {p : NestedKey × Addr × V} {r : List (NestedKey × Addr × V)} {k : NestedKey} (e : p.1 = k) : valN (p :: r) k = some p.2.2 := by simp [valN, List.find?_cons, e]
theorem valN_neg {p : NestedKey × Addr × V} {r : List (NestedKey × Addr × V)} {k : NestedKey} (e : ¬ p.1 = k) : valN (p :: r) k = valN r k := by simp [valN, List.find?_cons, e]
theorem XU.val {xs : List (NestedKey × Addr × V)} {us : List (NestedKey × Addr × Value)} (r : XU xs us) (k : NestedKey) : RelO (valN xs k) ((atKey us k).map (·.2)) := by
  induction r with
  | nil => exact True.intro
  | @cons p q ps qs h t ih =>
    obtain ⟨h1, _, h2⟩ := h
    by_cases e : p.1 = k
    · have e' : q.1 = k := h1.symm.trans e
      have b : atKey (q :: qs) k = some q.2 := by simp [atKey, List.find?_cons, e']
      rw [valN_pos e, b]; exact h2
    · have e' : ¬ q.1 = k := fun z => e (h1.trans z)
      have b : atKey (q :: qs) k = atKey qs k := by simp [atKey, List.find?_cons, e']
      rw [valN_neg e, b]; exact ih
theorem XU.isSome {xs : List (NestedKey × Addr × V)} {us : List (NestedKey × Addr × Value)} (r : XU xs us) (k : NestedKey) : (valN xs k).isSome = (atKey us k).isSome := by
  have q := (r.val k).isSome_eq
  rw [Option.isSome_map] at q
  exact q
theorem XU.map {k : NestedKey} {v : V} {u : Value} (rv : RelV v u) : ∀ {xs : List (NestedKey × Addr × V)} {us : List (NestedKey × Addr × Value)}, XU xs us → XU (xs.map fun x => if x.1 = k then (x.1, x.2.1, v) else x) (us.map (putAt k u))
  | _, _, .nil => .nil
  | _, _, .cons (a := p) (b := q) h t => by
    refine .cons ?_ (XU.map rv t)
    obtain ⟨h1, h2, h3⟩ := h
    unfold putAt
    by_cases e : p.1 = k
    · simp only [if_pos e, if_pos (h1.symm.trans e)]; exact ⟨h1, h2, rv⟩
    · simp only [if_neg e, if_neg (fun z => e (h1.trans z))]; exact ⟨h1, h2, h3⟩
theorem XU.app : ∀ {xs ys : List (NestedKey × Addr × V)} {us ws : List (NestedKey × Addr × Value)}, XU xs us → XU ys ws → XU (xs ++ ys) (us ++ ws)
  | _, _, _, _, .nil, h => h
  | _, _, _, _, .cons r t, h => .cons r (XU.app t h)
theorem XU.put {xs : List (NestedKey × Addr × V)} {us : List (NestedKey × Addr × Value)} (r : XU xs us) (k : NestedKey) (b : Addr) {v : V} {u : Value} (rv : RelV v u) : XU (storN xs k b v) (storedH us k b u) := by
  unfold storN storedH
  rw [r.isSome k]
  cases (atKey us k).isSome with
  | true => simp only [if_true]; exact r.map rv
  | false => simp only [Bool.false_eq_true, if_false]; exact r.app (.cons ⟨rfl, rfl, rv⟩ .nil)
theorem XU.drop (k : NestedKey) : ∀ {xs : List (NestedKey × Addr × V)} {us : List (NestedKey × Addr × Value)}, XU xs us → XU (dropN xs k) (withoutH us k)
  | _, _, .nil => .nil
  | _, _, .cons (a := p) (b := q) h t => by
    have ih := XU.drop k t
    unfold dropN withoutH at ih ⊢
    by_cases e : p.1 = k
    · have e' : q.1 = k := h.1.symm.trans e
      simp only [List.filter_cons, e, e', ne_eq, not_true_eq_false, decide_false, Bool.false_eq_true, if_false]
      exact ih
    · have e' : ¬ q.1 = k := fun z => e (h.1.trans z)
      simp only [List.filter_cons, e, e', ne_eq, not_false_eq_true, decide_true, if_true]
      exact .cons h ih
theorem XU.keys {xs : List (NestedKey × Addr × V)} {us : List (NestedKey × Addr × Value)} (r : XU xs us) : us.map (·.1) = xs.map (·.1) := by
  induction r with
  | nil => rfl
  | cons h t ih => rw [List.map_cons, List.map_cons, ih, h.1]
section
variable {C : Ct} {H : Hp}
theorem pt_val {x : D} : ∀ {kvs : List (D × D)} {xs : List (NestedKey × Addr × V)}, PTd C H kvs xs → (∀ d, dget kvs x = some d → ∃ v, valN xs x.key = some v ∧ RD C H d v) ∧ dhas kvs x = (valN xs x.key).isSome ∧ (dget kvs x = none → valN xs x.key = none)
  | _, _, .nil => ⟨fun d e => (nomatch e), rfl, fun _ => rfl⟩
  | _, _, .cons (a := p) (b := q) r t => by
    obtain ⟨h1, h2, h3⟩ := pt_val (x := x) t
    obtain ⟨_, r1, _, r3⟩ := r
    have e : p.1.eqv x = decide (q.1 = x.key) := by rw [eqv_dec, r1]
    by_cases hk : q.1 = x.key
    · rw [decide_eq_true hk] at e
      refine ⟨fun d hd => ?_, ?_, fun hd => ?_⟩
      · simp only [dget, List.find?_cons, e] at hd
        cases hd
        exact ⟨q.2.2, valN_pos hk, r3⟩
      · simp only [dhas, List.any_cons, e, Bool.true_or]
        rw [valN_pos hk]
        rfl
      · simp only [dget, List.find?_cons, e] at hd
        cases hd
    · rw [decide_eq_false hk] at e
      refine ⟨fun d hd => ?_, ?_, fun hd => ?_⟩
      · simp only [dget, List.find?_cons, e] at hd
        rw [valN_neg hk]
        exact h1 d hd
      · simp only [dhas, List.any_cons, e, Bool.false_or]
        rw [valN_neg hk]
        exact h2
      · simp only [dget, List.find?_cons, e] at hd
        rw [valN_neg hk]
        exact h3 hd
theorem pt_map {x d : D} {v : V} (rd : RD C H d v) : ∀ {kvs : List (D × D)} {xs : List (NestedKey × Addr × V)}, PTd C H kvs xs → PTd C H (kvs.map fun p => if p.1.eqv x then (p.1, d) else p) (xs.map fun y => if y.1 = x.key then (y.1, y.2.1, v) else y)
  | _, _, .nil => .nil
  | _, _, .cons (a := p) (b := q) r t => by
    refine .cons ?_ (pt_map rd t)
    obtain ⟨r0, r1, r2, r3⟩ := r
    have e : p.1.eqv x = decide (q.1 = x.key) := by rw [eqv_dec, r1]
    by_cases hk : q.1 = x.key
    · simp only [e, hk, decide_true, if_true]
      exact ⟨r0, r1.trans hk, r2, rd⟩
    · simp only [e, hk, decide_false, Bool.false_eq_true, if_false]
      exact ⟨r0, r1, r2, r3⟩
theorem pt_app : ∀ {kvs kvs' : List (D × D)} {xs xs' : List (NestedKey × Addr × V)}, PTd C H kvs xs → PTd C H kvs' xs' → PTd C H (kvs ++ kvs') (xs ++ xs')
  | _, _, _, _, .nil, h => h
  | _, _, _, _, .cons r t, h => .cons r (pt_app t h)
theorem pt_put {x d : D} {b : Addr} {v : V} (hx : x.hkT = true) (rx : RD C H x (.ref b)) (rd : RD C H d v) {kvs : List (D × D)} {xs : List (NestedKey × Addr × V)} (h : PTd C H kvs xs) : PTd C H (dput kvs x d) (storN xs x.key b v) := by
  unfold dput storN
  rw [(pt_val h).2.1]
  cases (valN xs x.key).isSome with
  | true => simp only [if_true]; exact pt_map rd h
  | false => simp only [Bool.false_eq_true, if_false]; exact pt_app h (.cons ⟨hx, rfl, rx, rd⟩ .nil)
theorem pt_drop {x : D} : ∀ {kvs : List (D × D)} {xs : List (NestedKey × Addr × V)}, PTd C H kvs xs → PTd C H (ddel kvs x) (dropN xs x.key)
  | _, _, .nil => .nil
  | _, _, .cons (a := p) (b := q) r t => by
    have ih := pt_drop (x := x) t
    unfold ddel dropN at ih ⊢
    have e : p.1.eqv x = decide (q.1 = x.key) := by rw [eqv_dec, r.2.1]
    by_cases hk : q.1 = x.key
    · simp only [List.filter_cons, e, hk, decide_true, Bool.not_true, Bool.false_eq_true, if_false, ne_eq, not_true_eq_false, decide_false]
      exact ih
    · simp only [List.filter_cons, e, hk, decide_false, Bool.not_false, if_true, ne_eq, not_false_eq_true, decide_true]
      exact .cons r ih
theorem PTd.len {kvs : List (D × D)} {xs : List (NestedKey × Addr × V)} (h : PTd C H kvs xs) : kvs.length = xs.length := Paired.length h
theorem PTd.keep {H' : Hp} (k : TupK H H') {kvs : List (D × D)} {xs : List (NestedKey × Addr × V)} (h : PTd C H kvs xs) : PTd C H' kvs xs := Paired.mapP h fun _ _ q => ⟨q.1, q.2.1, q.2.2.1.keep k, q.2.2.2.keep k⟩
theorem pt_keys : ∀ {kvs : List (D × D)} {xs : List (NestedKey × Addr × V)}, PTd C H kvs xs → RDs C H (kvs.map (·.1)) (xs.map fun q => V.ref q.2.1)
  | _, _, .nil => rfl
  | _, _, .cons r t => ⟨_, _, rfl, r.2.2.1, pt_keys t⟩
theorem pt_vals : ∀ {kvs : List (D × D)} {xs : List (NestedKey × Addr × V)}, PTd C H kvs xs → RDs C H (kvs.map (·.2)) (xs.map fun q => q.2.2)
  | _, _, .nil => rfl
  | _, _, .cons r t => ⟨_, _, rfl, r.2.2.2, pt_vals t⟩
theorem nodup_put {xs : List (NestedKey × Addr × V)} (n : (xs.map (·.1)).Nodup) (k : NestedKey) (b : Addr) (v : V) : ((storN xs k b v).map (·.1)).Nodup := by
  unfold storN
  cases e : (valN xs k).isSome with
  | true =>
    simp only [if_true]
    have : (xs.map fun x => if x.1 = k then (x.1, x.2.1, v) else x).map (·.1) = xs.map (·.1) := by
      rw [List.map_map]
      apply List.map_congr_left
      intro x _
      show (if x.1 = k then (x.1, x.2.1, v) else x).1 = x.1
      split <;> rfl
    rw [this]; exact n
  | false =>
    simp only [Bool.false_eq_true, if_false]
    rw [List.map_append, List.nodup_append]
    refine ⟨n, by simp, ?_⟩
    intro a ha b' hb z
    have hb2 : b' = k := by simpa using hb
    subst z
    subst hb2
    obtain ⟨y, hy, e2⟩ := List.mem_map.mp ha
    have : (valN xs a).isSome = true := by
      unfold valN
      rw [Option.isSome_map, List.find?_isSome]
      exact ⟨y, hy, by simpa using e2⟩
    rw [e] at this
    cases this
theorem nodup_drop {xs : List (NestedKey × Addr × V)} (n : (xs.map (·.1)).Nodup) (k : NestedKey) : ((dropN xs k).map (·.1)).Nodup :=
  List.Nodup.sublist (List.Sublist.map _ List.filter_sublist) n
theorem dput_le (kvs : List (D × D)) (k v : D) : (dput kvs k v).length ≤ kvs.length + 1 := by
  unfold dput
  split
  · rw [List.length_map]; omega
  · rw [List.length_append]; simp
theorem ddel_le (kvs : List (D × D)) (k : D) : (ddel kvs k).length ≤ kvs.length := List.length_filter_le _ _
variable {h : Heap}
/-- the dict's entries as they stand -/
theorem nD_rd (ok : HOk C.P C.w H h) (kin : C.K.In h) {a : Addr} {kvs : List (D × D)} {xs : List (NestedKey × Addr × V)} (e : Rd H a (nD C.P C.w a xs)) (n : (xs.map (·.1)).Nodup) (pt : PTd C H kvs xs) :
    ∃ us, XU xs us ∧ h.DictOfH (nestedKind C.P C.w) a us := by
  obtain ⟨⟨us, o, es, ep, pu, ho, hx, hd, he⟩, _, _⟩ := (show ObjOk C.P C.w H h a (nD C.P C.w a xs) from e.ok ok)
  refine ⟨us, pu, o, es, ep, ho, hx, hd, he, fun x hm => ?_, ?_⟩
  · obtain ⟨i, hi⟩ := List.mem_iff_getElem?.mp hm
    have l1 : xs.length = us.length := Paired.length pu
    have hlt : i < us.length := (List.getElem?_eq_some_iff.mp hi).1
    have l2 := pt.len
    obtain ⟨p, hp⟩ : ∃ p, kvs[i]? = some p := ⟨kvs[i], List.getElem?_eq_getElem (by omega)⟩
    obtain ⟨q, hq, r0, r1, r2, _⟩ := paired_get pt hp
    obtain ⟨x', hx', e1, e2, _⟩ := paired_get pu hq
    rw [hi] at hx'
    cases hx'
    obtain ⟨p1, p2⟩ := hkT_is r0
    rw [← e1, ← r1, ← e2]
    exact ⟨RD.is ok kin r2 rfl p1, p2⟩
  · rw [XU.keys pu]; exact n
end
section
variable {ca : Nat → Addr} {X : Cx} {M0 M : Mp} {pins : List (Addr × Obj)} {σ3 : Lo} {σ : L2.St} {H : Hp} {s : Shared}
/-- a dict with such keys, told as it is or while it is walked -/
def DT (M : Mp) (a : Addr) (kvs : List (D × D)) : Prop := M a = some (.dcT kvs) ∨ M a = some (.lkT kvs)
theorem I3.dtAt (I : I3 (ct X ca) X M0 pins σ3 M σ H s) {a : Addr} {kvs : List (D × D)} (h : DT M a kvs) : (a == sysModules) = false ∧ kvs.length ≤ sizeLine ∧ ∃ xs us, Rd H a (nD X.prog X.w a xs) ∧ (xs.map (·.1)).Nodup ∧ PTd (ct X ca) H kvs xs ∧ XU xs us ∧ s.heap.DictOfH (nestedKind X.prog X.w) a us := by
  rcases h with h | h
  · obtain ⟨h1, h2, xs, hx, n, pt⟩ := I.hp.dcT h
    obtain ⟨us, xu, dd⟩ := nD_rd (C := ct X ca) I.inv.hok I.inv.kIn (.inl hx) n pt
    exact ⟨h1, h2, xs, us, .inl hx, n, pt, xu, dd⟩
  · obtain ⟨h1, h2, ob, xs, hx, n, pt⟩ := I.hp.lkT h
    obtain ⟨us, xu, dd⟩ := nD_rd (C := ct X ca) I.inv.hok I.inv.kIn (.inr ⟨ob, hx⟩) n pt
    exact ⟨h1, h2, xs, us, .inr ⟨ob, hx⟩, n, pt, xu, dd⟩
theorem I3.dtRaw (I : I3 (ct X ca) X M0 pins σ3 M σ H s) {a : Addr} {kvs : List (D × D)} (h : DT M a kvs) : (a == sysModules) = false ∧ ∃ es ep, s.heap.DictRaw a es ep ∧ es.size = kvs.length ∧ (es.size : Int) < 2 ^ 63 := by
  obtain ⟨hs, hz, xs, us, hH, n, pt, xu, o, es, ep, ho, hx2, hd, he, _⟩ := I.dtAt h
  have l1 : es.size = kvs.length := by
    rw [size_of_entries he, pt.len]
    exact (Paired.length xu).symm
  exact ⟨hs, es, ep, ⟨o, ho, hx2, hd⟩, l1, by rw [l1]; rw [sizeLine_eq] at hz; omega⟩
theorem I3.keyIs (I : I3 (ct X ca) X M0 pins σ3 M σ H s) {x : D} {v : V} {u : Value} (r : RD (ct X ca) H x v) (rv : RelV v u) (hx : x.hkT = true) : ∃ b, u = .ref b ∧ v = .ref b ∧ (nestedKind X.prog X.w).is s.heap x.key b := by
  obtain ⟨b, rfl⟩ := hkT_ref r hx
  cases rv
  obtain ⟨p1, p2⟩ := hkT_is hx
  exact ⟨b, rfl, rfl, RD.is I.inv.hok I.inv.kIn r rfl p1, p2⟩
theorem dt_type {a : Addr} {us : List (NestedKey × Addr × Value)} (dd : s.heap.DictOfH (nestedKind X.prog X.w) a us) : s.TypeIs (.ref a) "dict" ∧ ∀ b, Value.ref a = .ref b → ∃ ob, s.heap.get? b = some ob ∧ ob.dict = none := by
  refine ⟨dd.typeIs, fun b q => ?_⟩
  cases q
  obtain ⟨ob, _, _, h1, h2, _⟩ := dd
  exact ⟨ob, h1, h2.2.1⟩
/-- a value that is there -/
theorem xu_some {xs : List (NestedKey × Addr × V)} {us : List (NestedKey × Addr × Value)} (r : XU xs us) {k : NestedKey} {v : V} (l : valN xs k = some v) : ∃ p, atKey us k = some p ∧ RelV v p.2 := by
  have q := r.val k
  rw [l] at q
  cases e : atKey us k with
  | none => rw [e] at q; exact q.elim
  | some p => rw [e] at q; exact ⟨p, rfl, q⟩
theorem xu_none {xs : List (NestedKey × Addr × V)} {us : List (NestedKey × Addr × Value)} (r : XU xs us) {k : NestedKey} (l : valN xs k = none) : atKey us k = none := by
  have q := r.val k
  rw [l] at q
  cases e : atKey us k with
  | none => rfl
  | some p => rw [e] at q; exact q.elim
variable {A : Around} {E : Value → Shared → Prop}
/-- d[x] -/
theorem t_getItem {a : Addr} {kvs : List (D × D)} {x d : D} {v : V} {u : Value} {Q : Value → Shared → Prop} (hu : A.units + 10 < cLine) (I : I3 (ct X ca) X M0 pins σ3 M σ H s) (g : DT M a kvs) (rx : RD (ct X ca) H x v) (rv : RelV v u) (hx : x.hkT = true) (hd : dget kvs x = some d)
    (h : ∀ w w' s', Inv X pins σ H s' → RD (ct X ca) H d w → RelV w w' → Q w' s') : wpAny (model X.prog X.w) A (getItem (.ref a) u) Q E s := by
  obtain ⟨hs, hz, xs, us, hH, n, pt, xu, dd⟩ := I.dtAt g
  obtain ⟨b, rfl, rfl, hk⟩ := I.keyIs rx rv hx
  obtain ⟨w, l, rw'⟩ := (pt_val pt).1 d hd
  obtain ⟨p, hp, rp⟩ := xu_some xu l
  exact wpAny_getItem_heap (show A.in1.units + 8 < cLine by show A.units + 1 + 8 < cLine; omega) hk dd hp (h w p.2 _ (I.inv.tok _) rw' rp)
/-- x in d -/
theorem t_in {a : Addr} {kvs : List (D × D)} {x : D} {v : V} {u : Value} {Q : Value → Shared → Prop} (hu : A.units + 10 < cLine) (I : I3 (ct X ca) X M0 pins σ3 M σ H s) (g : DT M a kvs) (rx : RD (ct X ca) H x v) (rv : RelV v u) (hx : x.hkT = true)
    (h : ∀ s', Inv X pins σ H s' → Q (.bool (dhas kvs x)) s') : wpAny (model X.prog X.w) A (compareOp .In u (.ref a)) Q E s := by
  obtain ⟨hs, hz, xs, us, hH, n, pt, xu, dd⟩ := I.dtAt g
  obtain ⟨b, rfl, rfl, hk⟩ := I.keyIs rx rv hx
  refine wpAny_in_heap (show A.in1.units + 8 < cLine by show A.units + 1 + 8 < cLine; omega) hk hs dd ?_
  rw [← xu.isSome, ← (pt_val pt).2.1]
  exact h _ (I.inv.tok _)
theorem t_notIn {a : Addr} {kvs : List (D × D)} {x : D} {v : V} {u : Value} {Q : Value → Shared → Prop} (hu : A.units + 10 < cLine) (I : I3 (ct X ca) X M0 pins σ3 M σ H s) (g : DT M a kvs) (rx : RD (ct X ca) H x v) (rv : RelV v u) (hx : x.hkT = true)
    (h : ∀ s', Inv X pins σ H s' → Q (.bool (!dhas kvs x)) s') : wpAny (model X.prog X.w) A (compareOp .NotIn u (.ref a)) Q E s := by
  obtain ⟨hs, hz, xs, us, hH, n, pt, xu, dd⟩ := I.dtAt g
  obtain ⟨b, rfl, rfl, hk⟩ := I.keyIs rx rv hx
  refine wpAny_notIn_heap (show A.in1.units + 8 < cLine by show A.units + 1 + 8 < cLine; omega) hk hs dd ?_
  rw [← xu.isSome, ← (pt_val pt).2.1]
  exact h _ (I.inv.tok _)
theorem getD_or {o : Option (Addr × Value)} {z : Value} : (o.map (·.2)).getD z = match o with
    | some p => p.2
    | none => z := by cases o <;> rfl
theorem val_or {C : Ct} {kvs : List (D × D)} {xs : List (NestedKey × Addr × V)} {us : List (NestedKey × Addr × Value)} (pt : PTd C H kvs xs) (xu : XU xs us) (x : D) {z : D} {zv : V} {zu : Value} (rz : RD C H z zv) (rzv : RelV zv zu) :
    ∃ w, RD C H ((dget kvs x).getD z) w ∧ RelV w (((atKey us x.key).map (·.2)).getD zu) := by
  cases e : dget kvs x with
  | some d =>
    obtain ⟨w, l, rw'⟩ := (pt_val pt).1 d e
    obtain ⟨p, hp, rp⟩ := xu_some xu l
    rw [hp]
    exact ⟨w, rw', rp⟩
  | none =>
    rw [xu_none xu ((pt_val pt).2.2 e)]
    exact ⟨zv, rz, rzv⟩
/-- d.get(x), d.get(x, z) -/
theorem t_get1 {a : Addr} {kvs : List (D × D)} {x : D} {v : V} {u : Value} {Q : Value → Shared → Prop} (hu : A.units + 10 < cLine) (I : I3 (ct X ca) X M0 pins σ3 M σ H s) (g : DT M a kvs) (rx : RD (ct X ca) H x v) (rv : RelV v u) (hx : x.hkT = true)
    (h : ∀ w w' s', Inv X pins σ H s' → RD (ct X ca) H ((dget kvs x).getD .non) w → RelV w w' → Q w' s') : wpAny (model X.prog X.w) A (call (.builtin "dict.get") [.ref a, u]) Q E s := by
  obtain ⟨hs, hz, xs, us, hH, n, pt, xu, dd⟩ := I.dtAt g
  obtain ⟨b, rfl, rfl, hk⟩ := I.keyIs rx rv hx
  obtain ⟨w, r1, r2⟩ := val_or pt xu x (z := .non) (zv := .non) (zu := .none) rfl rfl
  exact call_meetsIn PySem.F.slot_dict_get dd.typeIs PySem.F.entry_dict_get (PySem.F.args_dict_get_2 _ _) (meetsH_dict_get (nestedKind X.prog X.w) a b hs) ⟨(show A.in1.units + 8 < cLine by show A.units + 1 + 8 < cLine; omega), x.key, us, hk, dd, h w _ _ (I.inv.tok _) r1 r2⟩
theorem t_get2 {a : Addr} {kvs : List (D × D)} {x z : D} {v zv : V} {u zu : Value} {Q : Value → Shared → Prop} (hu : A.units + 10 < cLine) (I : I3 (ct X ca) X M0 pins σ3 M σ H s) (g : DT M a kvs) (rx : RD (ct X ca) H x v) (rv : RelV v u) (hx : x.hkT = true) (rz : RD (ct X ca) H z zv) (rzv : RelV zv zu)
    (h : ∀ w w' s', Inv X pins σ H s' → RD (ct X ca) H ((dget kvs x).getD z) w → RelV w w' → Q w' s') : wpAny (model X.prog X.w) A (call (.builtin "dict.get") [.ref a, u, zu]) Q E s := by
  obtain ⟨hs, hz, xs, us, hH, n, pt, xu, dd⟩ := I.dtAt g
  obtain ⟨b, rfl, rfl, hk⟩ := I.keyIs rx rv hx
  obtain ⟨w, r1, r2⟩ := val_or pt xu x rz rzv
  exact call_meetsIn PySem.F.slot_dict_get dd.typeIs PySem.F.entry_dict_get (PySem.F.args_dict_get_3 _ _ _) (meetsH_dict_get_default (nestedKind X.prog X.w) a b hs zu) ⟨(show A.in1.units + 8 < cLine by show A.units + 1 + 8 < cLine; omega), x.key, us, hk, dd, h w _ _ (I.inv.tok _) r1 r2⟩
/-- the dict is written -/
theorem t_write {a : Addr} {kvs kvs' : List (D × D)} {xs : List (NestedKey × Addr × V)} {us : List (NestedKey × Addr × Value)} {h' : Heap} {t' : Nat} (I : I3 (ct X ca) X M0 pins σ3 M σ H s) (g : M a = some (.dcT kvs)) (hs : (a == sysModules) = false) (hz : kvs'.length ≤ sizeLine) (n : (xs.map (·.1)).Nodup) (pt : PTd (ct X ca) H kvs' xs) (xu : XU xs us)
    (dd : h'.DictOfH (nestedKind X.prog X.w) a us) (sb : Heap.SameBut a s.heap h') : I3 (ct X ca) X M0 pins σ3 (mset M a (.dcT kvs')) σ (upd H a (nD X.prog X.w a xs)) { s with heap := h', toks := t' } ∧ Stp H M (upd H a (nD X.prog X.w a xs)) (mset M a (.dcT kvs')) := by
  obtain ⟨_, _, xs0, hH, _⟩ := I.hp.dcT g
  obtain ⟨o, es, ep, ho, hx, hd, he, his, _⟩ := dd
  have J : Inv X pins σ (upd H a (nD X.prog X.w a xs)) { s with heap := h', toks := t' } := d_write I.inv (by rw [hH]; exact True.intro) sb ⟨o, ho⟩ ⟨⟨us, o, es, ep, xu, ho, hx, hd, he⟩, ⟨o, ho⟩, fun h1 h2 ⟨us', o', es', ep', q1, q2, q3⟩ k => ⟨us', o', es', ep', q1, k _ q2, q3⟩⟩
  have kw : TupK H (upd H a (nD X.prog X.w a xs)) := I.hp.tupKw g
  have st : Stp H M (upd H a (nD X.prog X.w a xs)) (mset M a (.dcT kvs')) := write_stp I.hp g
  exact ⟨I.to J (I.hp.write (m' := .dcT kvs') g ⟨hs, hz, xs, rfl, n, pt.keep kw⟩) st, st⟩
/-- d[x] = z -/
theorem t_setItem {a : Addr} {kvs : List (D × D)} {x z : D} {v zv : V} {u zu : Value} {Q : Unit → Shared → Prop} (hu : A.units + 10 < cLine) (I : I3 (ct X ca) X M0 pins σ3 M σ H s) (g : M a = some (.dcT kvs)) (rx : RD (ct X ca) H x v) (rv : RelV v u) (hx : x.hkT = true) (rz : RD (ct X ca) H z zv) (rzv : RelV zv zu) (hz : kvs.length < sizeLine)
    (h : ∀ H' s', I3 (ct X ca) X M0 pins σ3 (mset M a (.dcT (dput kvs x z))) σ H' s' → Stp H M H' (mset M a (.dcT (dput kvs x z))) → Q () s') : wpAny (model X.prog X.w) A (setItem (.ref a) u zu) Q E s := by
  obtain ⟨hs, hz', xs, us, hH, n, pt, xu, dd⟩ := I.dtAt (.inl g)
  obtain ⟨b, rfl, rfl, hk⟩ := I.keyIs rx rv hx
  have l1 : kvs.length = us.length := pt.len.trans (Paired.length xu)
  refine wpAny_setItem_heap (hsz := by omega) (show A.in1.units + 8 < cLine by show A.units + 1 + 8 < cLine; omega) hk dd fun h' dd' sb => ?_
  obtain ⟨I', st⟩ := t_write (t' := s.toks + (nestedKind X.prog X.w).draws x.key) I g hs (by have := dput_le kvs x z; omega) (nodup_put n x.key b zv) (pt_put hx rx rz pt) (xu.put x.key b rzv) dd' sb
  exact h _ _ I' st
/-- del d[x] -/
theorem t_delItem {a : Addr} {kvs : List (D × D)} {x : D} {v : V} {u : Value} {Q : Unit → Shared → Prop} (hu : A.units + 10 < cLine) (I : I3 (ct X ca) X M0 pins σ3 M σ H s) (g : M a = some (.dcT kvs)) (rx : RD (ct X ca) H x v) (rv : RelV v u) (hx : x.hkT = true) (hh : dhas kvs x = true)
    (h : ∀ H' s', I3 (ct X ca) X M0 pins σ3 (mset M a (.dcT (ddel kvs x))) σ H' s' → Stp H M H' (mset M a (.dcT (ddel kvs x))) → Q () s') : wpAny (model X.prog X.w) A (delItem (.ref a) u) Q E s := by
  obtain ⟨hs, hz', xs, us, hH, n, pt, xu, dd⟩ := I.dtAt (.inl g)
  obtain ⟨b, rfl, rfl, hk⟩ := I.keyIs rx rv hx
  have l1 : kvs.length = us.length := pt.len.trans (Paired.length xu)
  have h2 : (atKey us x.key).isSome = true := by rw [← xu.isSome, ← (pt_val pt).2.1]; exact hh
  obtain ⟨p, hp⟩ := Option.isSome_iff_exists.mp h2
  refine wpAny_delItem_heap (hsz := by omega) (show A.in1.units + 8 < cLine by show A.units + 1 + 8 < cLine; omega) hk hs dd hp fun h' dd' sb => ?_
  obtain ⟨I', st⟩ := t_write (t' := s.toks + (nestedKind X.prog X.w).draws x.key) I g hs (by have := ddel_le kvs x; omega) (nodup_drop n x.key) (pt_drop pt) (xu.drop x.key) dd' sb
  exact h _ _ I' st
/-- d.pop(x), d.pop(x, z), there -/
theorem t_pop {a : Addr} {kvs : List (D × D)} {x d : D} {v : V} {u : Value} {more : List Value} {Q : Value → Shared → Prop} (hu : A.units + 10 < cLine) (I : I3 (ct X ca) X M0 pins σ3 M σ H s) (g : M a = some (.dcT kvs)) (rx : RD (ct X ca) H x v) (rv : RelV v u) (hx : x.hkT = true) (hd : dget kvs x = some d) (hm : more = [] ∨ ∃ z, more = [z])
    (h : ∀ H' w w' s', I3 (ct X ca) X M0 pins σ3 (mset M a (.dcT (ddel kvs x))) σ H' s' → Stp H M H' (mset M a (.dcT (ddel kvs x))) → RD (ct X ca) H' d w → RelV w w' → Q w' s') : wpAny (model X.prog X.w) A (call (.builtin "dict.pop") (.ref a :: u :: more)) Q E s := by
  obtain ⟨hs, hz', xs, us, hH, n, pt, xu, dd⟩ := I.dtAt (.inl g)
  obtain ⟨b, rfl, rfl, hk⟩ := I.keyIs rx rv hx
  have l1 : kvs.length = us.length := pt.len.trans (Paired.length xu)
  obtain ⟨w, l, rw'⟩ := (pt_val pt).1 d hd
  obtain ⟨p, hp, rp⟩ := xu_some xu l
  have ha : argsOk "dict.pop" ⟨.ref a :: .ref b :: more, []⟩ := by
    rcases hm with q | ⟨z, q⟩
    · subst q; exact PySem.F.args_dict_pop_2 _ _
    · subst q; exact PySem.F.args_dict_pop_3 _ _ _
  refine call_pop_heap (hsz := by omega) hm ha (show A.in1.units + 8 < cLine by show A.units + 1 + 8 < cLine; omega) hk hs dd hp fun h' dd' sb => ?_
  obtain ⟨I', st⟩ := t_write (t' := s.toks + (nestedKind X.prog X.w).draws x.key) I g hs (by have := ddel_le kvs x; omega) (nodup_drop n x.key) (pt_drop pt) (xu.drop x.key) dd' sb
  exact h _ w p.2 _ I' st (rw'.keep (st.tupK I.hp)) rp
theorem t_popD {a : Addr} {kvs : List (D × D)} {x : D} {v : V} {u zu : Value} {Q : Value → Shared → Prop} (hu : A.units + 10 < cLine) (I : I3 (ct X ca) X M0 pins σ3 M σ H s) (g : M a = some (.dcT kvs)) (rx : RD (ct X ca) H x v) (rv : RelV v u) (hx : x.hkT = true) (hd : dget kvs x = none)
    (h : ∀ s', Inv X pins σ H s' → Q zu s') : wpAny (model X.prog X.w) A (call (.builtin "dict.pop") [.ref a, u, zu]) Q E s := by
  obtain ⟨hs, hz', xs, us, hH, n, pt, xu, dd⟩ := I.dtAt (.inl g)
  obtain ⟨b, rfl, rfl, hk⟩ := I.keyIs rx rv hx
  have l1 : kvs.length = us.length := pt.len.trans (Paired.length xu)
  exact call_pop_default_heap (hsz := by omega) (show A.in1.units + 8 < cLine by show A.units + 1 + 8 < cLine; omega) hk hs dd (xu_none xu ((pt_val pt).2.2 hd)) fun tk => h _ (I.inv.tok tk)
/-- d.clear() -/
theorem t_clear {a : Addr} {kvs : List (D × D)} {Q : Value → Shared → Prop} (I : I3 (ct X ca) X M0 pins σ3 M σ H s) (g : M a = some (.dcT kvs))
    (h : ∀ H' s', I3 (ct X ca) X M0 pins σ3 (mset M a (.dcT [])) σ H' s' → Stp H M H' (mset M a (.dcT [])) → Q .none s') : wpAny (model X.prog X.w) A (call (.builtin "dict.clear") [.ref a]) Q E s := by
  obtain ⟨hs, hz', xs, us, hH, n, pt, xu, dd⟩ := I.dtAt (.inl g)
  obtain ⟨_, es, ep, hr, l1, _⟩ := I.dtRaw (.inl g)
  refine call_meetsIn PySem.F.slot_dict_clear dd.typeIs PySem.F.entry_dict_clear (PySem.F.args_dict_clear_1 _) (meets_dict_clear_raw a) ⟨es, ep, hr, by rw [l1]; exact hz', fun h' hr' sb => ?_⟩
  obtain ⟨o, ho, hc, hdat⟩ := hr'
  obtain ⟨I', st⟩ := t_write (t' := s.toks) (kvs' := []) (xs := []) (us := []) I g hs (Nat.zero_le _) List.nodup_nil .nil .nil ⟨o, #[], ep + 1, ho, hc, hdat, rfl, (fun _ hx => nomatch hx), List.nodup_nil⟩ sb
  exact h _ _ I' st
/-- {} -/
theorem nD_new {P : Program} {w : World} {H : Hp} (h : Heap) : ObjOk P w H (h.push { cls := .type "dict", data := .dict #[] }) h.objs.size (nD P w h.objs.size []) :=
  ⟨⟨[], _, #[], 0, .nil, Heap.get?_push_size _ rfl, ⟨rfl, rfl, rfl⟩, rfl, rfl⟩, ⟨_, Heap.get?_push_size _ rfl⟩, fun h1 h2 ⟨us', o', es', ep', q1, q2, q3⟩ k => ⟨us', o', es', ep', q1, k _ q2, q3⟩⟩
theorem t_new {pos : Pos} {Q : Value → Shared → Prop} (I : I3 (ct X ca) X M0 pins σ3 M σ H s) (h : ∀ p s', H p = none → (p == sysModules) = false → Inv X pins σ (upd H p (nD X.prog X.w p [])) s' → Q (.ref p) s') :
    wpAny (model X.prog X.w) X.A (eval (.Dict [] [] pos) X.env) Q X.xe s :=
  wpAny_Dict_empty (h s.heap.objs.size _ (I.inv.hok.fresh (Nat.le_refl _)) (beq_eq_false_iff_ne.mpr (Ne.symm (Nat.ne_of_lt I.inv.big)))
    (I.inv.laid (a := s.heap.objs.size) (t' := s.toks) (fun _ _ q => Heap.get?_push_of_some _ q) (Nat.le_refl _) (nD_new s.heap)))
end
end L3
end
section
set_option autoImplicit false
set_option linter.all false
set_option maxRecDepth 100000
/-! L3: comparisons, truth, subscripts, slices, by values -/
namespace L3
open PySem L2 PyProof.Rows

section
variable {ca : Nat → Addr} {X : Cx} {M0 M : Mp} {pins : List (Addr × Obj)} {σ3 : Lo} {σ : L2.St} {H : Hp} {s : Shared}
theorem I3.ok (I : I3 (ct X ca) X M0 pins σ3 M σ H s) : HOk (ct X ca).P (ct X ca).w H s.heap := I.inv.hok
theorem I3.kin (I : I3 (ct X ca) X M0 pins σ3 M σ H s) : (ct X ca).K.In s.heap := I.inv.kIn

/-! ### data through the heap -/
/-- the module table is a dict, so it is none of our lists -/
def SysD (K : PySem.W.Frag) : Prop := ∃ o, K.lookup sysModules = some o ∧ o.cls = .type "dict"
mutual
theorem Deep.reads (sy : SysD X.K) (I : I3 (ct X ca) X M0 pins σ3 M σ H s) : ∀ {d : D} {p : PyData} {v : V} {u : Value}, Deep M d p → RD (ct X ca) H d v → RelV v u → ∃ as, Reads s.heap u p as ∧ sysModules ∉ as
  | _, _, v, u, .non, r, q => by rw [show v = .non from r] at q; cases q; exact ⟨_, .none, by simp⟩
  | _, _, v, u, .bl b, r, q => by rw [show v = .bl b from r] at q; cases q; exact ⟨_, .bool b, by simp⟩
  | _, _, v, u, .int i, r, q => by rw [show v = .int i from r] at q; obtain ⟨t, rfl⟩ := q; exact ⟨_, .int i t, by simp⟩
  | _, _, v, u, .str x, r, q => by rw [show v = .str x from r] at q; obtain ⟨t, rfl⟩ := q; exact ⟨_, .str x t, by simp⟩
  | _, _, v, u, .tup (ds := ds) hs, r, q => by
    obtain ⟨a, xs, rfl, hq, rs⟩ := r
    cases q
    rcases hq with hq | (hq | ⟨_, hq⟩) | ⟨o, its, n, hk, hc, hd, hz, rv⟩
    · obtain ⟨z, its, rv, o, ho, hc, n, hd⟩ := (show Rd H a (.tup xs) from .inl hq).ok I.ok
      obtain ⟨as, h1, h2⟩ := Deeps.reads sy I hs rs rv
      exact ⟨_, .tuple ho hc hd (by simpa using h1), h2⟩
    · cases hq
    · cases hq
    · obtain ⟨as, h1, h2⟩ := Deeps.reads sy I hs rs rv
      exact ⟨_, .tuple (I.kin a o hk) hc hd h1, h2⟩
  | _, _, v, u, .kt (ds := ds) hs, r, q => by
    obtain ⟨a, xs, rfl, hq, rs⟩ := r
    cases q
    rcases hq with (hq | ⟨_, hq⟩) | ⟨o, its, n, hk, hc, hd, hz, rv⟩
    · cases hq
    · cases hq
    · obtain ⟨as, h1, h2⟩ := Deeps.reads sy I hs rs rv
      exact ⟨_, .tuple (I.kin a o hk) hc hd h1, h2⟩
  | _, _, v, u, .lst (a := a) hm hs, r, q => by
    rw [show v = .ref a from r] at q
    cases q
    obtain ⟨xs, hx, rs⟩ := I.hp.lst hm
    obtain ⟨z, its, n, rv, e⟩ := I.ok a _ hx
    obtain ⟨as, h1, h2⟩ := Deeps.reads sy I hs rs rv
    refine ⟨_, .list e rfl rfl (by simpa using h1), fun hm => ?_⟩
    rcases List.mem_cons.mp hm with hm | hm
    · obtain ⟨o, ho, hc⟩ := sy
      have := I.kin _ _ ho
      rw [hm, e] at this
      have e2 := Option.some.inj this
      rw [← e2] at hc
      have hc' : Value.type "list" = .type "dict" := hc
      injection hc' with hc'
      exact absurd hc' (by decide)
    · exact h2 hm
  | _, _, v, u, .dct (a := a) (kvs := kvs) hm hk hv, r, q => by
    rw [show v = .ref a from r] at q
    cases q
    obtain ⟨ks, hx, pd⟩ := I.hp.dct hm
    obtain ⟨z, hsys, vs, kv, o, es, ep, ho, hex, hd, _, pr, _⟩ := dk_rd I.ok (.inl hx)
    obtain ⟨v1, v2⟩ := entries_vals pr kv
    obtain ⟨as, h1, h2⟩ := Deeps.reads sy I hk (pd_keys pd) v1
    obtain ⟨bs, h3, h4⟩ := Deeps.reads sy I hv (pd_vals pd) v2
    refine ⟨_, .dict ho hex.1 hd h1 h3, fun hm => ?_⟩
    rcases List.mem_append.mp hm with hm | hm
    · rcases List.mem_cons.mp hm with hm | hm
      · rw [← hm] at hsys
        exact absurd hsys (by decide)
      · exact h2 hm
    · exact h4 hm
theorem Deeps.reads (sy : SysD X.K) (I : I3 (ct X ca) X M0 pins σ3 M σ H s) : ∀ {ds : List D} {ps : List PyData} {vs : List V} {us : List Value}, Deeps M ds ps → RDs (ct X ca) H ds vs → Vals vs us → ∃ as, ReadsAll s.heap us ps as ∧ sysModules ∉ as
  | _, _, vs, us, .nil, r, q => by rw [show vs = [] from r] at q; cases q; exact ⟨_, .nil, by simp⟩
  | _, _, vs, us, .cons h1 h2, r, q => by
    obtain ⟨x, l, rfl, r1, r2⟩ := r
    cases q with
    | cons q1 q2 =>
      obtain ⟨as, g1, g2⟩ := Deep.reads sy I h1 r1 q1
      obtain ⟨bs, g3, g4⟩ := Deeps.reads sy I h2 r2 q2
      exact ⟨_, .cons g1 g3, fun hm => (List.mem_append.mp hm).elim g2 g4⟩
end

/-! ### == and in -/
theorem flat_of {x : D} (h : x.flat = true) : x.pure = true ∧ x.key.depth ≤ 8 := by
  unfold D.flat at h
  rw [Bool.and_eq_true] at h
  exact ⟨h.1, of_decide_eq_true h.2⟩
theorem rc_flat {A : Around} (hu : A.units + 64 < cLine) (I : I3 (ct X ca) X M0 pins σ3 M σ H s) {x y : D} {a b : V} {v u : Value} (rx : RD (ct X ca) H x a) (ry : RD (ct X ca) H y b) (ra : RelV a v) (rb : RelV b u) (fx : x.flat = true) (fy : y.flat = true) : SeqAt.RcAt A s v u (x.eqv y) := by
  obtain ⟨px, dx⟩ := flat_of fx
  obtain ⟨py, dy⟩ := flat_of fy
  exact rcKey _ _ v u (RD.is I.ok I.kin rx ra px) (RD.is I.ok I.kin ry rb py) (by omega)
theorem rcNe_flat {A : Around} (hu : A.units + 64 < cLine) (I : I3 (ct X ca) X M0 pins σ3 M σ H s) {x y : D} {a b : V} {v u : Value} (rx : RD (ct X ca) H x a) (ry : RD (ct X ca) H y b) (ra : RelV a v) (rb : RelV b u) (fx : x.flat = true) (fy : y.flat = true) : SeqAt.RcNeAt A s v u (!x.eqv y) := by
  obtain ⟨px, dx⟩ := flat_of fx
  obtain ⟨py, dy⟩ := flat_of fy
  exact rcNeKey _ _ v u (RD.is I.ok I.kin rx ra px) (RD.is I.ok I.kin ry rb py) (by omega)
open Classical in
/-- an item's answer, by the value that stands there -/
noncomputable def eKey (h : Heap) (kx : NestedKey) (u : Value) : Bool := if ∃ k, NestedIs h k u ∧ NestedKey.beq k kx = true then true else false
theorem eKey_of {h : Heap} {k kx : NestedKey} {u : Value} (r : NestedIs h k u) : eKey h kx u = NestedKey.beq k kx := by
  unfold eKey
  cases e : NestedKey.beq k kx with
  | true => rw [if_pos ⟨k, r, e⟩]
  | false =>
    rw [if_neg]
    rintro ⟨k', r', e'⟩
    rw [NestedIs.inj _ _ _ r' r, e] at e'
    cases e'
theorem any_eKey {C : Ct} {h : Heap} (ok : HOk C.P C.w H h) (kin : C.K.In h) {x : D} : ∀ {ds : List D} {xs : List V} {us : List Value}, RDs C H ds xs → Vals xs us → (∀ d ∈ ds, d.flat = true) → us.any (eKey h x.key) = ds.any fun z => z.eqv x
  | [], xs, us, r, q, _ => by rw [show xs = [] from r] at q; cases q; rfl
  | d :: ds, xs, us, r, q, p => by
    obtain ⟨y, l, rfl, r1, r2⟩ := r
    cases q with
    | cons q1 q2 =>
      rw [List.any_cons, List.any_cons, any_eKey ok kin r2 q2 fun z hz => p z (List.mem_cons_of_mem _ hz), eKey_of (RD.is ok kin r1 q1 (flat_of (p d List.mem_cons_self)).1)]
      rfl
theorem mem_eKey {A : Around} (hu : A.units + 64 < cLine) {C : Ct} (ok : HOk C.P C.w H s.heap) (kin : C.K.In s.heap) {x : D} {v : Value} (hv : NestedIs s.heap x.key v) (hx : x.key.depth ≤ 8) : ∀ {ds : List D} {xs : List V} {us : List Value}, RDs C H ds xs → Vals xs us → (∀ d ∈ ds, d.flat = true) → ∀ u ∈ us, SeqAt.EqAt A s u v (eKey s.heap x.key u)
  | [], xs, us, r, q, _ => by rw [show xs = [] from r] at q; cases q; exact fun _ h => nomatch h
  | d :: ds, xs, us, r, q, p => by
    obtain ⟨y, l, rfl, r1, r2⟩ := r
    cases q with
    | cons q1 q2 =>
      intro u hm
      rcases List.mem_cons.mp hm with e | hm
      · rw [e]
        obtain ⟨pd, dd⟩ := flat_of (p d List.mem_cons_self)
        have hd := RD.is ok kin r1 q1 pd
        rw [eKey_of hd]
        exact eqAt_key _ _ A s _ v hd hv (by omega)
      · exact mem_eKey hu ok kin hv hx r2 q2 (fun z hz => p z (List.mem_cons_of_mem _ hz)) u hm

def cop : COp → CmpOp
  | .eq => .Eq
  | .ne => .NotEq
  | .lt => .Lt
  | .le => .LtE
  | .gt => .Gt
  | .ge => .GtE
  | .isIn => .In
  | .notIn => .NotIn
  | .is => .Is
  | .isNot => .IsNot
/-- a comparison is at its end -/
theorem ep_bl {Q : Post} (I : I3 (ct X ca) X M0 pins σ3 M σ H s) {b : Bool} {s' : Shared} (J : Inv X pins σ H s') (q : Q (.bl b) M) : EP3 (ct X ca) X M0 pins σ3 σ H M Q (.bool b) s' := ep_now (v := .bl b) (d := .bl b) I J rfl rfl q

theorem o_eq (hu : X.A.units + 64 < cLine) (sy : SysD X.K) : Op3 ca X (compareOp .Eq) (fun x y M Q => wpEq x y M fun r => Q (.bl r) M) := by
  intro pins s σ H M0 M σ3 x y a b v u Q I ra rb hx hy h
  have flat : (x.flat = true ∧ y.flat = true) ∧ Q (.bl (x.eqv y)) M → wpAny (model X.prog X.w) X.A (compareOp .Eq v u) (EP3 (ct X ca) X M0 pins σ3 σ H M Q) X.xe s := fun ⟨⟨f1, f2⟩, q⟩ =>
    rc_flat hu I hx hy ra rb f1 f2 _ _ _ _ (ep_bl I I.inv q)
  cases x with
  | ref p => cases y with
    | ref q =>
      obtain ⟨d, e, h1, h2, sd, se, q⟩ := h
      obtain ⟨as, r1, _⟩ := h1.reads sy I hx ra
      obtain ⟨bs, r2, _⟩ := h2.reads sy I hy rb
      exact SeqAt.compareEq_shaped r1 r2 sd se hu (ep_bl I I.inv q)
    | _ => exact flat h
  | _ => exact flat h
theorem o_ne (hu : X.A.units + 64 < cLine) (sy : SysD X.K) : Op3 ca X (compareOp .NotEq) (fun x y M Q => wpEq x y M fun r => Q (.bl (!r)) M) := by
  intro pins s σ H M0 M σ3 x y a b v u Q I ra rb hx hy h
  have flat : (x.flat = true ∧ y.flat = true) ∧ Q (.bl (!x.eqv y)) M → wpAny (model X.prog X.w) X.A (compareOp .NotEq v u) (EP3 (ct X ca) X M0 pins σ3 σ H M Q) X.xe s := fun ⟨⟨f1, f2⟩, q⟩ =>
    rcNe_flat hu I hx hy ra rb f1 f2 _ _ _ _ (ep_bl I I.inv q)
  cases x with
  | ref p => cases y with
    | ref q =>
      obtain ⟨d, e, h1, h2, sd, se, q⟩ := h
      obtain ⟨as, r1, _⟩ := h1.reads sy I hx ra
      obtain ⟨bs, r2, _⟩ := h2.reads sy I hy rb
      exact SeqAt.compareNe_shaped r1 r2 sd se hu (ep_bl I I.inv q)
    | _ => exact flat h
  | _ => exact flat h
theorem str1 {x : Str} (h : x.length = 1) : x = ⟨#[x.cps.getD 0 0]⟩ := by
  obtain ⟨cps⟩ := x
  have h' : cps.size = 1 := h
  congr 1
  apply Array.ext
  · simpa using h'
  · intro i h1 h2
    have : i = 0 := by omega
    subst this
    simp [Array.getD, h1]
theorem o_in (hu : X.A.units + 80 < cLine) : Op3 ca X (compareOp .In) (fun x y M Q => wpIn x y M fun r => Q (.bl r) M) := by
  intro pins s σ H M0 M σ3 x y a b v u Q I ra rb hx hy h
  cases y with
  | tup ds =>
    obtain ⟨⟨fx, fd⟩, q⟩ := h
    obtain ⟨p, xs, rfl, hq, rs⟩ := hy
    cases rb
    obtain ⟨its, r, pl, hz⟩ := I.inv.tuple hq.sq
    obtain ⟨px, dx⟩ := flat_of fx
    refine SeqAt.in_tupleAt (eKey s.heap x.key) pl (fun w hw => mem_eKey (by have e : X.A.in1.units = X.A.units + 1 := rfl; omega) I.ok I.kin (RD.is I.ok I.kin hx ra px) dx rs r fd w (by simpa using hw)) (ep_bl I I.inv ?_)
    rw [show its.toArray.any (eKey s.heap x.key) = its.any (eKey s.heap x.key) by simp, any_eKey I.ok I.kin rs r fd]
    exact q
  | kt ds =>
    obtain ⟨⟨fx, fd⟩, q⟩ := h
    obtain ⟨p, xs, rfl, hq, rs⟩ := hy
    cases rb
    obtain ⟨its, r, pl, hz⟩ := I.inv.tuple (sqk hq)
    obtain ⟨px, dx⟩ := flat_of fx
    refine SeqAt.in_tupleAt (eKey s.heap x.key) pl (fun w hw => mem_eKey (by have e : X.A.in1.units = X.A.units + 1 := rfl; omega) I.ok I.kin (RD.is I.ok I.kin hx ra px) dx rs r fd w (by simpa using hw)) (ep_bl I I.inv ?_)
    rw [show its.toArray.any (eKey s.heap x.key) = its.any (eKey s.heap x.key) by simp, any_eKey I.ok I.kin rs r fd]
    exact q
  | str z => cases x with
    | str x =>
      obtain ⟨h1, q⟩ := h
      rw [show a = .str x from hx] at ra
      rw [show b = .str z from hy] at rb
      refine thn (op_in_sign pins s σ H _ _ v u (QV (ct X ca) H M Q) I.inv ra rb ⟨x.cps.getD 0 0, z, by rw [← str1 h1], rfl, qv_bl I.hp q⟩) fun _ _ e => ep_of I e
    | _ => exact h.elim
  | ref p =>
    rw [show b = .ref p from hy] at rb
    cases rb
    have h' : (match M p with
      | some (.lst ds) => (x.flat = true ∧ (∀ d ∈ ds, d.flat = true)) ∧ Q (.bl (ds.any fun z => z.eqv x)) M
      | some (.dct kvs) => x.hk1 = true ∧ Q (.bl (dhas kvs x)) M
      | some (.lck kvs) => x.hk1 = true ∧ Q (.bl (dhas kvs x)) M
      | some (.dcT kvs) => x.hkT = true ∧ Q (.bl (dhas kvs x)) M
      | some (.lkT kvs) => x.hkT = true ∧ Q (.bl (dhas kvs x)) M
      | _ => False) := h
    cases e : M p with
    | none => rw [e] at h'; exact h'.elim
    | some o =>
      rw [e] at h'
      cases o with
      | lst ds =>
        obtain ⟨⟨fx, fd⟩, q⟩ := h'
        obtain ⟨xs, hxs, rs⟩ := I.hp.lst e
        obtain ⟨its, r, pl, hz⟩ := I.inv.list (SqL.of hxs)
        obtain ⟨px, dx⟩ := flat_of fx
        refine SeqAt.in_listAt (eKey s.heap x.key) pl.isList (fun w hw => mem_eKey (by have e : X.A.in1.units = X.A.units + 1 := rfl; omega) I.ok I.kin (RD.is I.ok I.kin hx ra px) dx rs r fd w (by simpa using hw)) (ep_bl I I.inv ?_)
        rw [show its.toArray.any (eKey s.heap x.key) = its.any (eKey s.heap x.key) by simp, any_eKey I.ok I.kin rs r fd]
        exact q
      | dct kvs =>
        obtain ⟨hk, q⟩ := h'
        obtain ⟨ks, hx2, pd, ty⟩ := I.dictAt e
        obtain ⟨kk, rfl, kr⟩ := key_rd hx hk
        refine d_in (by omega) I.inv (DGet.k (k := kk) hx2) ra fun s' J => ep_bl I J ?_
        rw [← (dget_val kr pd).2]
        exact q
      | lck kvs =>
        obtain ⟨hk, q⟩ := h'
        obtain ⟨ob, ks, hx2, pd, ty⟩ := I.lckAt e
        obtain ⟨kk, rfl, kr⟩ := key_rd hx hk
        refine d_in (by omega) I.inv (.inl ⟨ks, kk, .inr ⟨ob, hx2⟩, rfl, rfl⟩) ra fun s' J => ep_bl I J ?_
        rw [← (dget_val kr pd).2]
        exact q
      | dcT kvs => exact t_in (by omega) I (.inl e) hx ra h'.1 fun s' J => ep_bl I J h'.2
      | lkT kvs => exact t_in (by omega) I (.inr e) hx ra h'.1 fun s' J => ep_bl I J h'.2
      | _ => exact h'.elim
  | _ => exact h.elim
theorem o_notIn (hu : X.A.units + 80 < cLine) : Op3 ca X (compareOp .NotIn) (fun x y M Q => wpIn x y M fun r => Q (.bl (!r)) M) := by
  intro pins s σ H M0 M σ3 x y a b v u Q I ra rb hx hy h
  cases y with
  | tup ds =>
    obtain ⟨⟨fx, fd⟩, q⟩ := h
    obtain ⟨p, xs, rfl, hq, rs⟩ := hy
    cases rb
    obtain ⟨its, r, pl, hz⟩ := I.inv.tuple hq.sq
    obtain ⟨px, dx⟩ := flat_of fx
    refine SeqAt.notIn_tupleAt (eKey s.heap x.key) pl (fun w hw => mem_eKey (by have e : X.A.in1.units = X.A.units + 1 := rfl; omega) I.ok I.kin (RD.is I.ok I.kin hx ra px) dx rs r fd w (by simpa using hw)) (ep_bl I I.inv ?_)
    rw [show its.toArray.any (eKey s.heap x.key) = its.any (eKey s.heap x.key) by simp, any_eKey I.ok I.kin rs r fd]
    exact q
  | kt ds =>
    obtain ⟨⟨fx, fd⟩, q⟩ := h
    obtain ⟨p, xs, rfl, hq, rs⟩ := hy
    cases rb
    obtain ⟨its, r, pl, hz⟩ := I.inv.tuple (sqk hq)
    obtain ⟨px, dx⟩ := flat_of fx
    refine SeqAt.notIn_tupleAt (eKey s.heap x.key) pl (fun w hw => mem_eKey (by have e : X.A.in1.units = X.A.units + 1 := rfl; omega) I.ok I.kin (RD.is I.ok I.kin hx ra px) dx rs r fd w (by simpa using hw)) (ep_bl I I.inv ?_)
    rw [show its.toArray.any (eKey s.heap x.key) = its.any (eKey s.heap x.key) by simp, any_eKey I.ok I.kin rs r fd]
    exact q
  | str z => cases x with
    | str x =>
      obtain ⟨h1, q⟩ := h
      rw [show a = .str x from hx] at ra
      rw [show b = .str z from hy] at rb
      refine thn (op_notIn_sign pins s σ H _ _ v u (QV (ct X ca) H M Q) I.inv ra rb ⟨x.cps.getD 0 0, z, by rw [← str1 h1], rfl, qv_bl I.hp q⟩) fun _ _ e => ep_of I e
    | _ => exact h.elim
  | ref p =>
    rw [show b = .ref p from hy] at rb
    cases rb
    have h' : (match M p with
      | some (.lst ds) => (x.flat = true ∧ (∀ d ∈ ds, d.flat = true)) ∧ Q (.bl (!ds.any fun z => z.eqv x)) M
      | some (.dct kvs) => x.hk1 = true ∧ Q (.bl (!dhas kvs x)) M
      | some (.lck kvs) => x.hk1 = true ∧ Q (.bl (!dhas kvs x)) M
      | some (.dcT kvs) => x.hkT = true ∧ Q (.bl (!dhas kvs x)) M
      | some (.lkT kvs) => x.hkT = true ∧ Q (.bl (!dhas kvs x)) M
      | _ => False) := h
    cases e : M p with
    | none => rw [e] at h'; exact h'.elim
    | some o =>
      rw [e] at h'
      cases o with
      | lst ds =>
        obtain ⟨⟨fx, fd⟩, q⟩ := h'
        obtain ⟨xs, hxs, rs⟩ := I.hp.lst e
        obtain ⟨its, r, pl, hz⟩ := I.inv.list (SqL.of hxs)
        obtain ⟨px, dx⟩ := flat_of fx
        refine SeqAt.notIn_listAt (eKey s.heap x.key) pl.isList (fun w hw => mem_eKey (by have e : X.A.in1.units = X.A.units + 1 := rfl; omega) I.ok I.kin (RD.is I.ok I.kin hx ra px) dx rs r fd w (by simpa using hw)) (ep_bl I I.inv ?_)
        rw [show its.toArray.any (eKey s.heap x.key) = its.any (eKey s.heap x.key) by simp, any_eKey I.ok I.kin rs r fd]
        exact q
      | dct kvs =>
        obtain ⟨hk, q⟩ := h'
        obtain ⟨ks, hx2, pd, ty⟩ := I.dictAt e
        obtain ⟨kk, rfl, kr⟩ := key_rd hx hk
        refine d_notIn (by omega) I.inv (DGet.k (k := kk) hx2) ra fun s' J => ep_bl I J ?_
        rw [← (dget_val kr pd).2]
        exact q
      | lck kvs =>
        obtain ⟨hk, q⟩ := h'
        obtain ⟨ob, ks, hx2, pd, ty⟩ := I.lckAt e
        obtain ⟨kk, rfl, kr⟩ := key_rd hx hk
        refine d_notIn (by omega) I.inv (.inl ⟨ks, kk, .inr ⟨ob, hx2⟩, rfl, rfl⟩) ra fun s' J => ep_bl I J ?_
        rw [← (dget_val kr pd).2]
        exact q
      | dcT kvs => exact t_notIn (by omega) I (.inl e) hx ra h'.1 fun s' J => ep_bl I J h'.2
      | lkT kvs => exact t_notIn (by omega) I (.inr e) hx ra h'.1 fun s' J => ep_bl I J h'.2
      | _ => exact h'.elim
  | _ => exact h.elim
theorem RD.decN {C : Ct} {x : D} {v : V} (r : RD C H x v) (hx : ∀ c ds, x ≠ .exn c ds) : decide (v = .non) = x.isNon := by
  cases x with
  | non => have e : v = .non := r; subst e; rfl
  | tup ds => obtain ⟨a, xs, rfl, _⟩ := r; rfl
  | kl ds => obtain ⟨a, xs, rfl, _⟩ := r; rfl
  | kt ds => obtain ⟨a, xs, rfl, _⟩ := r; rfl
  | exn c ds => exact absurd rfl (hx c ds)
  | bl b => have e : v = .bl b := r; subst e; rfl
  | int b => have e : v = .int b := r; subst e; rfl
  | str b => have e : v = .str b := r; subst e; rfl
  | ref b => have e : v = .ref b := r; subst e; rfl
theorem isC {x y : D} {k : Bool → Prop} (h : wpCmp .is x y M k) : (∃ a b, x = .bl a ∧ y = .bl b ∧ k (a == b)) ∨ (y = .non ∧ k x.isNon) := by
  cases y with
  | non => exact .inr ⟨rfl, by cases x <;> exact h⟩
  | bl b => cases x with
    | bl a => exact .inl ⟨a, b, rfl, rfl, h⟩
    | _ => exact h.elim
  | _ => cases x <;> exact False.elim h
theorem isNotC {x y : D} {k : Bool → Prop} (h : wpCmp .isNot x y M k) : (∃ a b, x = .bl a ∧ y = .bl b ∧ k (!(a == b))) ∨ (y = .non ∧ k (!x.isNon)) := by
  cases y with
  | non => exact .inr ⟨rfl, by cases x <;> exact h⟩
  | bl b => cases x with
    | bl a => exact .inl ⟨a, b, rfl, rfl, h⟩
    | _ => exact h.elim
  | _ => cases x <;> exact False.elim h
theorem RD.noexn {C : Ct} {x : D} {v : V} (r : RD C H x v) : ∀ c ds, x ≠ .exn c ds := fun c ds e => by
  subst e
  exact False.elim r
theorem o_is : Op3 ca X (compareOp .Is) (fun x y M Q => wpCmp .is x y M fun r => Q (.bl r) M) := by
  intro pins s σ H M0 M σ3 x y a b v u Q I ra rb hx hy h
  rcases isC h with ⟨c, d, rfl, rfl, q⟩ | ⟨rfl, q⟩
  · rw [show a = .bl c from hx] at ra
    rw [show b = .bl d from hy] at rb
    refine thn (op_isBl pins s σ H _ _ v u (QV (ct X ca) H M Q) I.inv ra rb ⟨c, d, rfl, rfl, ?_⟩) fun _ _ e => ep_of I e
    have : decide (c = d) = (c == d) := by cases c <;> cases d <;> rfl
    rw [this]
    exact qv_bl I.hp q
  · rw [show b = .non from hy] at rb
    refine thn (op_isN pins s σ H _ _ v u (QV (ct X ca) H M Q) I.inv ra rb ⟨rfl, ?_⟩) fun _ _ e => ep_of I e
    rw [hx.decN hx.noexn]
    exact qv_bl I.hp q
theorem o_isNot : Op3 ca X (compareOp .IsNot) (fun x y M Q => wpCmp .isNot x y M fun r => Q (.bl r) M) := by
  intro pins s σ H M0 M σ3 x y a b v u Q I ra rb hx hy h
  rcases isNotC h with ⟨c, d, rfl, rfl, q⟩ | ⟨rfl, q⟩
  · rw [show a = .bl c from hx] at ra
    rw [show b = .bl d from hy] at rb
    refine thn (op_notBl pins s σ H _ _ v u (QV (ct X ca) H M Q) I.inv ra rb ⟨c, d, rfl, rfl, ?_⟩) fun _ _ e => ep_of I e
    have : decide (c = d) = (c == d) := by cases c <;> cases d <;> rfl
    rw [this]
    exact qv_bl I.hp q
  · rw [show b = .non from hy] at rb
    refine thn (op_notN pins s σ H _ _ v u (QV (ct X ca) H M Q) I.inv ra rb ⟨rfl, ?_⟩) fun _ _ e => ep_of I e
    rw [hx.decN hx.noexn]
    exact qv_bl I.hp q
theorem o_lt : Op3 ca X (compareOp .Lt) (fun x y M Q => wpCmp .lt x y M fun r => Q (.bl r) M) := op3_of op_lt fun H M x y a b Q r hx hy h => by
  cases x with
  | int i => cases y with
    | int j => exact ⟨i, j, hx, hy, qv_bl r h⟩
    | _ => exact h.elim
  | _ => exact h.elim
theorem o_le : Op3 ca X (compareOp .LtE) (fun x y M Q => wpCmp .le x y M fun r => Q (.bl r) M) := op3_of op_le fun H M x y a b Q r hx hy h => by
  cases x with
  | int i => cases y with
    | int j => exact ⟨i, j, hx, hy, qv_bl r h⟩
    | _ => exact h.elim
  | _ => exact h.elim
theorem o_gt : Op3 ca X (compareOp .Gt) (fun x y M Q => wpCmp .gt x y M fun r => Q (.bl r) M) := op3_of op_gt fun H M x y a b Q r hx hy h => by
  cases x with
  | int i => cases y with
    | int j => exact ⟨i, j, hx, hy, qv_bl r h⟩
    | _ => exact h.elim
  | _ => exact h.elim
theorem o_ge : Op3 ca X (compareOp .GtE) (fun x y M Q => wpCmp .ge x y M fun r => Q (.bl r) M) := op3_of op_ge fun H M x y a b Q r hx hy h => by
  cases x with
  | int i => cases y with
    | int j => exact ⟨i, j, hx, hy, qv_bl r h⟩
    | _ => exact h.elim
  | _ => exact h.elim
theorem o_cmp (hu : X.A.units + 80 < cLine) (sy : SysD X.K) (o : COp) : Op3 ca X (compareOp (cop o)) (fun x y M Q => wpCmp o x y M fun r => Q (.bl r) M) := by
  cases o with
  | eq => exact o_eq (by omega) sy
  | ne => exact o_ne (by omega) sy
  | lt => exact o_lt
  | le => exact o_le
  | gt => exact o_gt
  | ge => exact o_ge
  | isIn => exact o_in hu
  | notIn => exact o_notIn hu
  | is => exact o_is
  | isNot => exact o_isNot
/-! ### truth -/
theorem o_tru {x : D} {a : V} {v : Value} {k : Bool → Mp → Prop} (I : I3 (ct X ca) X M0 pins σ3 M σ H s) (ra : RelV a v) (hx : RD (ct X ca) H x a) (h : truthy x M fun b => k b M) : wpAny (model X.prog X.w) X.A (PySem.truthy v) (TP3 (ct X ca) X M0 pins σ3 σ H M k) X.xe s := by
  have fin : ∀ {b : Bool}, TruV X.K a H b → k b M → wpAny (model X.prog X.w) X.A (PySem.truthy v) (TP3 (ct X ca) X M0 pins σ3 σ H M k) X.xe s := fun {b} ht hk =>
    thn (tru_ok pins s σ H a v (fun c H' => H' = H ∧ c = b) I.inv ra ⟨b, ht, rfl, rfl⟩) fun c s' ⟨H', J, e1, e2⟩ => by
      subst e1; subst e2
      exact ⟨M, H', I.same J, Stp.refl, hk⟩
  cases x with
  | non => have e : a = .non := hx; subst e; exact fin (b := false) rfl h
  | bl b => have e : a = .bl b := hx; subst e; exact fin (b := b) rfl h
  | int i => have e : a = .int i := hx; subst e; exact fin (b := i != 0) rfl h
  | str x =>
    have e : a = .str x := hx; subst e
    refine fin (b := x.length != 0) ⟨h.1, ?_⟩ h.2
    rw [Bool.eq_iff_iff]; simp
  | tup ds =>
    obtain ⟨p, xs, rfl, hq, rs⟩ := hx
    refine fin (b := !ds.isEmpty) (.inr (.inl ⟨xs, hq.sq, ?_⟩)) h
    have := rs.length
    cases ds <;> cases xs <;> simp_all
  | ref p =>
    have e : a = .ref p := hx; subst e
    have h' : (match M p with
      | some (.lst ds) => k (!ds.isEmpty) M
      | some (.dct kvs) => k (!kvs.isEmpty) M
      | some (.dcT kvs) => k (!kvs.isEmpty) M
      | _ => False) := h
    cases e : M p with
    | none => rw [e] at h'; exact h'.elim
    | some o =>
      rw [e] at h'
      cases o with
      | lst ds =>
        obtain ⟨xs, hxs, rs⟩ := I.hp.lst e
        refine fin (b := !ds.isEmpty) (.inl ⟨xs, SqL.of hxs, ?_⟩) h'
        have := rs.length
        cases ds <;> cases xs <;> simp_all
      | dct kvs =>
        cases ra
        obtain ⟨ks, hx2, pd, ty⟩ := I.dictAt e
        refine d_truth I.inv (.inl hx2) fun s' J => ⟨M, H, I.same J, Stp.refl, ?_⟩
        have e1 : kvs.isEmpty = ks.isEmpty := by
          have := pd.len
          cases kvs <;> cases ks <;> simp_all
        rw [← e1]
        exact h'
      | dcT kvs =>
        cases ra
        obtain ⟨hs, es, ep, hr, l1, hf⟩ := I.dtRaw (.inl e)
        refine L3.truthy_dictR hs hr hf ?_
        have e1 : kvs.isEmpty = es.isEmpty := by
          have : es.isEmpty = decide (es.size = 0) := rfl
          rw [this, l1]
          cases kvs <;> simp
        rw [← e1]
        exact ⟨M, H, I.same (I.inv.tok _), Stp.refl, h'⟩
      | _ => exact h'.elim
  | kl ds => exact h.elim
  | kt ds => exact h.elim
  | exn c ds => exact h.elim
/-! ### one place -/
theorem o_neg {x : D} {a : V} {v : Value} {Q : Post} (I : I3 (ct X ca) X M0 pins σ3 M σ H s) (ra : RelV a v) (hx : RD (ct X ca) H x a) (h : wpUn .neg x M Q) : wpAny (model X.prog X.w) X.A (unaryOp .USub v) (EP3 (ct X ca) X M0 pins σ3 σ H M Q) X.xe s := by
  cases x with
  | int i => exact thn (un_neg pins s σ H a v (QV (ct X ca) H M Q) I.inv ra ⟨i, hx, qv_int I.hp h⟩) fun _ _ e => ep_of I e
  | _ => exact h.elim
/-! ### subscripts -/
theorem atD_atI {α : Type} {ds : List D} {xs : List α} (hl : ds.length = xs.length) {i : Int} {d : D} (h : atD ds i = some d) : ∃ j : Nat, ds[j]? = some d ∧ ixN xs.length i = some j ∧ j < xs.length := by
  unfold atD at h
  by_cases h0 : 0 ≤ i
  · rw [if_pos h0] at h
    obtain ⟨hj, _⟩ := List.getElem?_eq_some_iff.mp h
    refine ⟨i.toNat, h, ?_, by omega⟩
    unfold ixN
    rw [if_pos h0, if_pos (by omega)]
  · rw [if_neg h0] at h
    by_cases h1 : 0 ≤ i + ds.length
    · rw [if_pos h1] at h
      refine ⟨(i + ds.length).toNat, h, ?_, by omega⟩
      unfold ixN
      rw [if_neg h0, if_pos (by omega), hl]
    · rw [if_neg h1] at h
      cases h
theorem o_ix (hu : X.A.units + 10 < cLine) {value slice : Expr} {x y : D} {a b : V} {v u : Value} {Q : Post} (I : I3 (ct X ca) X M0 pins σ3 M σ H s) (ra : RelV a v) (rb : RelV b u) (hx : RD (ct X ca) H x a) (hy : RD (ct X ca) H y b) (h : wpIx x y M Q)
    (hs : subscripted slice false v u = operate [v, u] (getItem v u)) : wpAny (model X.prog X.w) X.A (subscriptTail value slice v u) (EP3 (ct X ca) X M0 pins σ3 σ H M Q) X.xe s := by
  have at_ : ∀ {ds : List D} {xs : List V} {i : Int} {d : D}, RDs (ct X ca) H ds xs → atD ds i = some d → ∃ w, atI xs i = some w ∧ RD (ct X ca) H d w := fun {ds xs i d} rs e => by
    obtain ⟨j, h1, h2, h3⟩ := atD_atI rs.length e
    obtain ⟨w, h4, h5⟩ := rs.get h1
    exact ⟨w, by unfold atI; rw [h2]; exact h4, h5⟩
  cases x with
  | tup ds => cases y with
    | int i =>
      obtain ⟨d, e, q⟩ := h
      obtain ⟨p, xs, rfl, hq, rs⟩ := hx
      obtain ⟨w, h4, h5⟩ := at_ rs e
      exact thn (ix_tup value slice pins s σ H _ b v u (QV (ct X ca) H M Q) I.inv ra rb ⟨p, xs, i, w, rfl, hy, hq.sq, h4, qv_now I.hp h5 q⟩ hs) fun _ _ e => ep_of I e
    | _ => exact h.elim
  | kt ds => cases y with
    | int i =>
      obtain ⟨d, e, q⟩ := h
      obtain ⟨p, xs, rfl, hq, rs⟩ := hx
      obtain ⟨w, h4, h5⟩ := at_ rs e
      exact thn (ix_tup value slice pins s σ H _ b v u (QV (ct X ca) H M Q) I.inv ra rb ⟨p, xs, i, w, rfl, hy, sqk hq, h4, qv_now I.hp h5 q⟩ hs) fun _ _ e => ep_of I e
    | _ => exact h.elim
  | str z => cases y with
    | int i =>
      obtain ⟨c, hz, e, q⟩ := h
      obtain ⟨j, h1, h2, h3⟩ := atD_atI (xs := z.cps.toList) (by rw [List.length_map]) e
      rw [List.getElem?_map] at h1
      cases g : z.cps.toList[j]? with
      | none => rw [g] at h1; cases h1
      | some k =>
        rw [g] at h1
        cases h1
        exact thn (ix_str value slice pins s σ H a b v u (QV (ct X ca) H M Q) I.inv ra rb ⟨z, i, k, hx, hy, hz, by unfold atI; rw [h2]; exact g, qv_str I.hp q⟩ hs) fun _ _ e => ep_of I e
    | _ => exact h.elim
  | kl ds => cases y with
    | int i =>
      obtain ⟨d, e1, q⟩ := h
      obtain ⟨p, xs, rfl, hq, rs⟩ := hx
      obtain ⟨w, h4, h5⟩ := at_ rs e1
      exact thn (ix_list value slice pins s σ H _ b v u (QV (ct X ca) H M Q) I.inv ra rb ⟨p, xs, i, w, rfl, hy, hq.sq, h4, qv_now I.hp h5 q⟩ hs) fun _ _ e => ep_of I e
    | _ => exact h.elim
  | ref p =>
    have e : a = .ref p := hx; subst e
    cases e : M p with
    | none => simp only [wpIx, e] at h
    | some o =>
      cases o with
      | lst ds => cases y with
        | int i =>
          simp only [wpIx, e] at h
          obtain ⟨d, e1, q⟩ := h
          obtain ⟨xs, hxs, rs⟩ := I.hp.lst e
          obtain ⟨w, h4, h5⟩ := at_ rs e1
          exact thn (ix_list value slice pins s σ H _ b v u (QV (ct X ca) H M Q) I.inv ra rb ⟨p, xs, i, w, rfl, hy, SqL.of hxs, h4, qv_now I.hp h5 q⟩ hs) fun _ _ e => ep_of I e
        | _ => simp only [wpIx, e] at h
      | dct kvs =>
        simp only [wpIx, e] at h
        obtain ⟨hk, d, hd, q⟩ := h
        obtain ⟨ks, hx2, pd, ty⟩ := I.dictAt e
        obtain ⟨kk, rfl, kr⟩ := key_rd hy hk
        obtain ⟨w, h4, h5⟩ := (dget_val kr pd).1 d hd
        cases ra
        refine tail_dict ty hs (d_getItem (by omega) I.inv (v := w) ?_ rb fun w' s' J rw' => ep_now I J rw' h5 q)
        rw [← h4]
        exact DGet.k hx2
      | lck kvs =>
        simp only [wpIx, e] at h
        obtain ⟨hk, d, hd, q⟩ := h
        obtain ⟨ob, ks, hx2, pd, ty⟩ := I.lckAt e
        obtain ⟨kk, rfl, kr⟩ := key_rd hy hk
        obtain ⟨w, h4, h5⟩ := (dget_val kr pd).1 d hd
        cases ra
        refine tail_dict ty hs (d_getItem (by omega) I.inv (v := w) ?_ rb fun w' s' J rw' => ep_now I J rw' h5 q)
        rw [← h4]
        exact .inl ⟨ks, kk, .inr ⟨ob, hx2⟩, rfl, rfl⟩
      | dcT kvs =>
        simp only [wpIx, e] at h
        obtain ⟨hk, d, hd, q⟩ := h
        cases ra
        obtain ⟨_, _, _, us, _, _, _, _, dd⟩ := I.dtAt (.inl e)
        exact tail_dict dd.typeIs hs (t_getItem (by omega) I (.inl e) hy rb hk hd fun w w' s' J rw1 rw2 => ep_now I J rw2 rw1 q)
      | lkT kvs =>
        simp only [wpIx, e] at h
        obtain ⟨hk, d, hd, q⟩ := h
        cases ra
        obtain ⟨_, _, _, us, _, _, _, _, dd⟩ := I.dtAt (.inr e)
        exact tail_dict dd.typeIs hs (t_getItem (by omega) I (.inr e) hy rb hk hd fun w w' s' J rw1 rw2 => ep_now I J rw2 rw1 q)
      | _ => simp only [wpIx, e] at h
  | _ => exact h.elim
end
end L3
end
section
set_option autoImplicit false
set_option linter.all false
set_option maxRecDepth 100000
/-! L3: sorted -/
namespace L3
open PySem L2 PyProof.Rows

abbrev EachIs {α β : Type} (R : α → β → Prop) := @PySem.W.EachIs α β R
/-! ### pure values are data -/
mutual
theorem pure_deep {M : Mp} : ∀ {d : D}, d.pure = true → Deep M d d.py
  | .non, _ => .non
  | .bl b, _ => .bl b
  | .int i, _ => .int i
  | .str x, _ => .str x
  | .tup ds, h => .tup (pures_deep h)
  | .kt ds, h => .kt (pures_deep h)
  | .ref _, h => absurd h Bool.false_ne_true
  | .exn _ _, h => absurd h Bool.false_ne_true
  | .kl _, h => absurd h Bool.false_ne_true
theorem pures_deep {M : Mp} : ∀ {ds : List D}, D.pures ds = true → Deeps M ds (D.pys ds)
  | [], _ => .nil
  | d :: ds, h => by
    have h' : (d.pure && D.pures ds) = true := h
    rw [Bool.and_eq_true] at h'
    exact .cons (pure_deep h'.1) (pures_deep h'.2)
end
/-! ### pairs whose keys can be compared, no two the same -/
section
variable {prog : Program} {w : World} {A : Around} {s : Shared}
abbrev pairPy (p : PyData × PyData) : PyData := .tuple [p.1, p.2]
/-- the kind of keys that the pairs ps make -/
noncomputable def pairKind (h : Heap) (ps : List (PyData × PyData)) : PyProof.Rows.KeyKind where
  toKeyOrd := listOrd itemOrd
  keyOf v := open Classical in if q : ∃ p, p ∈ ps ∧ ∃ as, Reads h v (pairPy p) as then some (PySem.W.keyToks q.choose.1) else none
  dflt := ([] : List (Int ⊕ List Nat))
def KeysAlike (ps : List (PyData × PyData)) : Prop := (∀ p ∈ ps, ∀ q ∈ ps, PySem.W.alike p.1 q.1 = true) ∧ ∀ p ∈ ps, p.1 ≠ .none
theorem reads_fst {h : Heap} {v : Value} {p q : PyData × PyData} {as bs : List Addr} (hal : PySem.W.alike p.1 q.1 = true) (r : Reads h v (pairPy p) as) (r' : Reads h v (pairPy q) bs) : p.1 = q.1 := by
  cases r with
  | @tuple a o xs n _ _ ho hc hd hr =>
    cases r' with
    | @tuple a' o' xs' n' _ _ ho' hc' hd' hr' =>
      rw [ho] at ho'
      cases ho'
      rw [hd] at hd'
      cases hd'
      generalize xs.toList = l at hr hr'
      cases hr with
      | cons r1 r2 =>
        cases hr' with
        | cons r1' r2' => exact PySem.W.alike_unique _ _ _ _ _ hal r1 r1'
theorem pairKind_some {h : Heap} {ps : List (PyData × PyData)} (hal : KeysAlike ps) {v : Value} {p : PyData × PyData} {as : List Addr} (hp : p ∈ ps) (r : Reads h v (pairPy p) as) : (pairKind h ps).keyOf v = some (PySem.W.keyToks p.1) := by
  have q : ∃ p, p ∈ ps ∧ ∃ as, Reads h v (pairPy p) as := ⟨p, hp, as, r⟩
  have e : (pairKind h ps).keyOf v = some (PySem.W.keyToks q.choose.1) := by
    show (open Classical in if q : ∃ p, p ∈ ps ∧ ∃ as, Reads h v (pairPy p) as then some (PySem.W.keyToks q.choose.1) else none) = _
    rw [dif_pos q]
  obtain ⟨h1, as', h2⟩ := q.choose_spec
  rw [e, reads_fst (hal.1 _ h1 _ hp) h2 r]
theorem pairKind_inv {h : Heap} {ps : List (PyData × PyData)} {v : Value} {k : List (Int ⊕ List Nat)} (e : (pairKind h ps).keyOf v = some k) : ∃ p as, p ∈ ps ∧ Reads h v (pairPy p) as ∧ k = PySem.W.keyToks p.1 := by
  by_cases q : ∃ p, p ∈ ps ∧ ∃ as, Reads h v (pairPy p) as
  · have e' : (pairKind h ps).keyOf v = some (PySem.W.keyToks q.choose.1) := by
      show (open Classical in if q : ∃ p, p ∈ ps ∧ ∃ as, Reads h v (pairPy p) as then some (PySem.W.keyToks q.choose.1) else none) = _
      rw [dif_pos q]
    obtain ⟨h1, as', h2⟩ := q.choose_spec
    rw [e'] at e
    exact ⟨_, as', h1, h2, (Option.some.inj e).symm⟩
  · have e' : (pairKind h ps).keyOf v = none := by
      show (open Classical in if q : ∃ p, p ∈ ps ∧ ∃ as, Reads h v (pairPy p) as then some (PySem.W.keyToks q.choose.1) else none) = _
      rw [dif_neg q]
      rfl
    rw [e'] at e
    exact absurd e (by simp)
theorem sortsPairs {vs : List Value} {ps : List (PyData × PyData)} (e : EachIs (fun v p => ∃ as, Reads s.heap v (pairPy p) as) vs ps) (hal : KeysAlike ps) (hpw : ∀ p ∈ ps, ∀ q ∈ ps, PyData.eqv p.1 q.1 = true → p = q) (hself : ∀ p ∈ ps, PySem.W.alike p.2 p.2 = true)
    (hu : ∀ p ∈ ps, A.units + p.1.depth + 1 < cLine ∧ A.units + p.2.depth + 1 < cLine) : PySem.W.SortsAt prog w A s (pairKind s.heap ps) vs := by
  refine ⟨fun v hv => ?_, ?_⟩
  · obtain ⟨d, hd, as, r⟩ := e.left v hv
    exact ⟨_, pairKind_some hal hd r⟩
  · cases ps with
    | nil =>
      cases e
      exact ⟨general', fun E x y a b Q ha _ _ => (by
        obtain ⟨d, _, hd, _⟩ := pairKind_inv ha
        exact absurd hd (by simp)), fun h2 => absurd h2 (by simp)⟩
    | cons p₀ ps₀ =>
      refine ⟨tuples' (PySem.W.dataType p₀.1 != Value.type "tuple"), ?_, fun h2 E Q hq => ?_⟩
      · intro E x y a b Q ha hb hq
        obtain ⟨p, as, hp, ra, rfl⟩ := pairKind_inv ha
        obtain ⟨p', as', hp', rb, rfl⟩ := pairKind_inv hb
        have hq' : Q (PySem.W.dataLt p.1 p'.1) s := hq
        have al := hal.1 p hp p' hp'
        obtain ⟨u1, u2⟩ := hu p hp
        obtain ⟨u3, u4⟩ := hu p' hp'
        cases ra with
        | @tuple l o xs n _ _ h1 h2 h3 h4 =>
          cases rb with
          | @tuple l' o' xs' n' _ _ k1 k2 k3 k4 =>
            have n1 : xs.size = 2 := by simpa using SeqAt.ReadsAll.length _ _ _ h4
            have n2 : xs'.size = 2 := by simpa using SeqAt.ReadsAll.length _ _ _ k4
            refine PySem.W.kat_lt h1 h3 k1 k3 ?_
            rw [n1, n2]
            generalize xs.toList = lx at h4
            generalize xs'.toList = ly at k4
            cases h4 with
            | @cons v1 vr _ _ a1 a2 r1 r2 =>
              cases r2 with
              | @cons v2 vr2 _ _ a3 a4 r3 r4 =>
                cases r4
                cases k4 with
                | @cons w1 wr _ _ b1 b2 q1 q2 =>
                  cases q2 with
                  | @cons w2 wr2 _ _ b3 b4 q3 q4 =>
                    cases q4
                    show PySem.W.KatLex prog w A _ (decide (2 < 2)) Q [(v1, w1), (v2, w2)] 0 s
                    refine PySem.W.kat_cons (PySem.W.eqAt_alike p.1 p'.1 A s v1 w1 _ _ r1 q1 al (by have := Nat.min_le_left p.1.depth p'.1.depth; omega) _ _ _ _ ?_)
                    refine PySem.W.kat_go (fun e1 => ?_) (fun e1 => ?_)
                    · have e2 : p = p' := hpw p hp p' hp' e1
                      subst e2
                      have irr : PySem.W.dataLt p.1 p.1 = false := lex_irrefl _
                      rw [irr] at hq'
                      refine PySem.W.kat_yes (PySem.W.kat_cons (PySem.W.eqAt_alike p.2 p.2 A s v2 w2 _ _ r3 q3 (hself p hp) (by have := Nat.min_le_left p.2.depth p.2.depth; omega) _ _ _ _ ?_))
                      rw [PySem.W.eqv_refl_alike _ (hself p hp)]
                      exact PySem.W.kat_yes (PySem.W.kat_nil hq')
                    · refine PySem.W.kat_no (PySem.W.oneLt_alike (fun hf xs' ex => ?_) r1 q1 al (hal.2 p hp) (by have := Nat.min_le_left p.1.depth p'.1.depth; omega) hq')
                      have hf' : (PySem.W.dataType p₀.1 != Value.type "tuple") = true := by
                        rw [Bool.and_eq_true] at hf
                        exact hf.1
                      rw [PySem.W.dataType_alike (hal.1 p₀ List.mem_cons_self p hp)] at hf'
                      exact PySem.W.dataType_tuple hf' xs' ex
      · obtain ⟨fs, t1, t2, t3⟩ := PySem.W.each_katTups (ds := (p₀ :: ps₀).map pairPy) (PySem.W.each_map (R := fun v d => ∃ as, Reads s.heap v d as) pairPy e) (fun d hd => by
          obtain ⟨p, hp, rfl⟩ := List.mem_map.mp hd
          exact ⟨p.1, [p.2], rfl⟩)
        refine PySem.W.kat_kind (T := PySem.W.dataType p₀.1) t1 (by rw [t2]; omega) (fun f hf => ?_) (beq_self_eq_true _) hq
        obtain ⟨x, r, as, m1, m2⟩ := t3 f hf
        obtain ⟨p, hp, ep⟩ := List.mem_map.mp m1
        have ex : p.1 = x := by
          have := PyData.tuple.inj ep
          injection this
        subst ex
        rw [← PySem.W.dataType_alike (hal.1 p hp p₀ List.mem_cons_self)]
        exact PySem.W.looks_reads m2
end
/-! ### the sort of a new list -/
section
variable {ca : Nat → Addr} {X : Cx} {M0 M : Mp} {pins : List (Addr × Obj)} {σ3 : Lo} {σ : L2.St} {H : Hp} {s : Shared} {A : Around} {E : Value → Shared → Prop}
theorem each_zip {C : Ct} {R : Value → D → Prop} : ∀ {ds : List D} {ws : List V} {us : List Value}, RDs C H ds ws → Vals ws us → EachIs R us ds → EachIs (fun v (b : D × V) => R v b.1 ∧ RelV b.2 v ∧ RD C H b.1 b.2) us (ds.zip ws)
  | [], ws, us, r, q, e => by
    rw [show ws = [] from r] at q; cases q; exact .nil
  | d :: ds, ws, us, r, q, e => by
    obtain ⟨x, l, rfl, r1, r2⟩ := r
    cases q with
    | cons q1 q2 =>
      cases e with
      | cons e1 e2 => exact .cons ⟨e1, q1, r1⟩ (each_zip r2 q2 e2)
theorem zip_fst {C : Ct} : ∀ {ds : List D} {ws : List V}, RDs C H ds ws → (ds.zip ws).map (·.1) = ds
  | [], ws, r => rfl
  | d :: ds, ws, r => by
    obtain ⟨x, l, rfl, r1, r2⟩ := r
    show d :: (ds.zip l).map (·.1) = d :: ds
    rw [zip_fst r2]
theorem each_out {C : Ct} : ∀ {bs : List (D × V)} {us : List Value}, EachIs (fun v (b : D × V) => RelV b.2 v ∧ RD C H b.1 b.2) us bs → Vals (bs.map (·.2)) us ∧ RDs C H (bs.map (·.1)) (bs.map (·.2))
  | _, _, .nil => ⟨.nil, rfl⟩
  | _, _, .cons h t => ⟨.cons h.1 (each_out t).1, _, _, rfl, h.2, (each_out t).2⟩
abbrev midHeap (h : Heap) (us : List Value) : Heap := PySem.W.sortingHeap (h.push (seqObj "list" us.toArray 0)) h.objs.size us
theorem mid_old {h : Heap} {us : List Value} {b : Addr} {o : Obj} (e : h.get? b = some o) : (midHeap h us).get? b = some o :=
  PySem.W.sortingHeap_old (Nat.ne_of_lt (Heap.lt_size e)) (Heap.get?_push_of_some _ e)
theorem sort_tail {κ : PyProof.Rows.KeyKind} (I : I3 (ct X ca) X M0 pins σ3 M σ H s) {ds : List D} {ws : List V} {us : List Value} {Q : Post} (rv : Vals ws us) (rd : RDs (ct X ca) H ds ws) (hz : us.length ≤ sizeLine) (k : D → κ.α) (hk : EachIs (fun v d => κ.keyOf v = some (k d)) us ds)
    (S : PySem.W.SortsAt X.prog X.w A.in1 { s with heap := midHeap s.heap us } κ us) (q : wpNew M (.lst (ds.mergeSort (PySem.W.sortLe κ.toKeyOrd false k))) Q) :
    wpAny (model X.prog X.w) A (call (.builtin "list.sort") [.ref s.heap.objs.size]) (fun _ s' => EP3 (ct X ca) X M0 pins σ3 σ H M Q (.ref s.heap.objs.size) s') E { s with heap := s.heap.push (seqObj "list" us.toArray 0) } := by
  have ho : (s.heap.push (seqObj "list" us.toArray 0)).get? s.heap.objs.size = some (seqObj "list" us.toArray 0) := Heap.get?_push_size _ rfl
  have ez := each_zip rd rv hk
  have hout := PySem.W.sortVals_each (κ := κ) (rev := false) (ks := us) (vs := us) (R := fun v (b : D × V) => RelV b.2 v ∧ RD (ct X ca) H b.1 b.2) (fun b : D × V => k b.1) (ez.mono fun _ _ z => z.2) (ez.mono fun _ _ z => z.1)
  obtain ⟨o1, o2⟩ := each_out hout
  have e1 : (((ds.zip ws).mergeSort (PySem.W.sortLe κ.toKeyOrd false fun b : D × V => k b.1)).map (·.1)) = ds.mergeSort (PySem.W.sortLe κ.toKeyOrd false k) := by
    have := PySem.W.sort_maps (r := PySem.W.sortLe κ.toKeyOrd false fun b : D × V => k b.1) (s := PySem.W.sortLe κ.toKeyOrd false k) (fun b : D × V => b.1) (l := ds.zip ws) (fun _ _ _ _ => rfl)
    rw [zip_fst rd] at this
    exact this
  rw [e1] at o2
  have hlen : (PySem.W.sortVals κ false us us).length = us.length := PySem.W.sortVals_length false rfl
  refine wpAny_call_entry slot_list_sort ⟨_, ho, rfl⟩ entry_list_sort (PySem.W.list_sort_vals (κ := κ) ho S hz ⟨.none, rfl, ?_⟩) (args_list_sort _)
  obtain ⟨ef, hf⟩ := sortedHeap_at (vs := us) (out := (PySem.W.sortVals κ false us us).toArray) ho
  have n1 : H s.heap.objs.size = none := I.inv.hok.fresh (Nat.le_refl _)
  generalize hws : ((ds.zip ws).mergeSort (PySem.W.sortLe κ.toKeyOrd false fun b : D × V => k b.1)).map (·.2) = ws' at o1 o2
  have lw : ws'.length ≤ sizeLine := by rw [o1.length, hlen]; exact hz
  have J : Inv X pins σ (upd H s.heap.objs.size (.lst ws')) { s with heap := sortedHeap (s.heap.push (seqObj "list" us.toArray 0)) s.heap.objs.size us (PySem.W.sortVals κ false us us).toArray } :=
    I.inv.laid (t' := s.toks) (fun b o e => by
      rw [sortedHeap_old (Nat.ne_of_lt (Heap.lt_size e)) (by rw [Heap.size_push]; exact Nat.lt_succ_of_lt (Heap.lt_size e))]
      exact Heap.get?_push_of_some _ e) (Nat.le_refl _) ⟨lw, _, ef, o1, hf⟩
  exact ep_of I ⟨.ref s.heap.objs.size, _, J, rfl, qv_new (m := .lst (ds.mergeSort (PySem.W.sortLe κ.toKeyOrd false k))) I.hp n1 o2 q⟩
/-- reads of pure values -/
theorem each_reads (sy : SysD X.K) (I : I3 (ct X ca) X M0 pins σ3 M σ H s) : ∀ {ds : List D} {ws : List V} {us : List Value}, RDs (ct X ca) H ds ws → Vals ws us → (∀ d ∈ ds, d.pure = true) → EachIs (fun v d => ∃ as, Reads s.heap v d.py as) us ds
  | [], ws, us, r, q, _ => by rw [show ws = [] from r] at q; cases q; exact .nil
  | d :: ds, ws, us, r, q, p => by
    obtain ⟨x, l, rfl, r1, r2⟩ := r
    cases q with
    | cons q1 q2 =>
      obtain ⟨as, h, _⟩ := (pure_deep (M := M) (p d List.mem_cons_self)).reads sy I r1 q1
      exact .cons ⟨as, h⟩ (each_reads sy I r2 q2 fun z hz => p z (List.mem_cons_of_mem _ hz))
theorem each_mem {α β : Type} {R : α → β → Prop} {as : List α} {bs : List β} (h : EachIs R as bs) : EachIs (fun a b => R a b ∧ b ∈ bs) as bs := PySem.W.each_mem h
/-- .. of data -/
theorem sort_data (sy : SysD X.K) (hu : A.units + 40 < cLine) (I : I3 (ct X ca) X M0 pins σ3 M σ H s) {ds : List D} {ws : List V} {us : List Value} {Q : Post} (rv : Vals ws us) (rd : RDs (ct X ca) H ds ws) (hz : us.length ≤ sizeLine) (ok : SortOk ds) (q : wpNew M (.lst (srtD ds)) Q) :
    wpAny (model X.prog X.w) A (call (.builtin "list.sort") [.ref s.heap.objs.size]) (fun _ s' => EP3 (ct X ca) X M0 pins σ3 σ H M Q (.ref s.heap.objs.size) s') E { s with heap := s.heap.push (seqObj "list" us.toArray 0) } := by
  obtain ⟨h1, h2, h3⟩ := ok
  have er := each_reads sy I rd rv fun d hd => (h1 d hd).1
  have er' : EachIs (fun v d => ∃ as, Reads (midHeap s.heap us) v d.py as) us ds := er.mono fun _ _ ⟨as, r⟩ => ⟨as, PyProof.Rows.Reads.keeps (fun _ _ => mid_old) r⟩
  refine sort_tail (κ := PySem.W.dataKind (midHeap s.heap us) (ds.map D.py)) I rv rd hz (fun d => PySem.W.keyToks d.py) ((each_mem er').mono fun v d ⟨⟨as, r⟩, hm⟩ => PySem.W.dataKind_some h2 (List.mem_map.mpr ⟨d, hm, rfl⟩) r)
    (PySem.W.SortsAt.data (s := { s with heap := midHeap s.heap us }) (PySem.W.each_map (R := fun v d => ∃ as, Reads (midHeap s.heap us) v d as) D.py er') h2 h3 fun d hd => ?_) q
  obtain ⟨x, hx, rfl⟩ := List.mem_map.mp hd
  have := (h1 x hx).2
  show A.units + 1 + _ < _
  omega
/-- .. of pairs -/
theorem pairs_eq : ∀ {kvs : List (D × D)}, (kvs.Pairwise fun p q => PyData.eqv p.1.py q.1.py = false ∧ PyData.eqv q.1.py p.1.py = false) → ∀ p ∈ kvs, ∀ q ∈ kvs, PyData.eqv p.1.py q.1.py = true → p = q
  | [], _, p, hp, _, _, _ => nomatch hp
  | x :: kvs, h, p, hp, q, hq, e => by
    rw [List.pairwise_cons] at h
    rcases List.mem_cons.mp hp with e1 | hp1
    · rcases List.mem_cons.mp hq with e2 | hq1
      · rw [e1, e2]
      · subst e1
        rw [(h.1 q hq1).1] at e; cases e
    · rcases List.mem_cons.mp hq with e2 | hq1
      · subst e2
        rw [(h.1 p hp1).2] at e; cases e
      · exact pairs_eq h.2 p hp1 q hq1 e
theorem pairD_pure {p : D × D} (h1 : p.1.pure = true) (h2 : p.2.pure = true) : (pairD p).pure = true := by
  show (p.1.pure && (p.2.pure && true)) = true
  rw [h1, h2]; rfl
theorem pyne {d : D} (h1 : d.pure = true) (h2 : d ≠ .non) : d.py ≠ .none := by
  cases d with
  | non => exact absurd rfl h2
  | ref a => cases h1
  | exn c ds => cases h1
  | kl ds => cases h1
  | _ => intro e; cases e
theorem map_srtP (kvs : List (D × D)) : (kvs.map pairD).mergeSort (PySem.W.sortLe (listOrd itemOrd) false fun d : D => PySem.W.keyToks ((match d with | .tup (k :: _) => k | _ => D.non).py)) = (srtP kvs).map pairD :=
  (PySem.W.sort_maps (r := fun p q : D × D => !PySem.W.dataLt q.1.py p.1.py) pairD (fun _ _ _ _ => rfl)).symm
theorem sort_pairs (sy : SysD X.K) (hu : A.units + 40 < cLine) (I : I3 (ct X ca) X M0 pins σ3 M σ H s) {kvs : List (D × D)} {ws : List V} {us : List Value} {Q : Post} (rv : Vals ws us) (rd : RDs (ct X ca) H (kvs.map pairD) ws) (hz : us.length ≤ sizeLine) (ok : PairsOk kvs) (q : wpNew M (.lst ((srtP kvs).map pairD)) Q) :
    wpAny (model X.prog X.w) A (call (.builtin "list.sort") [.ref s.heap.objs.size]) (fun _ s' => EP3 (ct X ca) X M0 pins σ3 σ H M Q (.ref s.heap.objs.size) s') E { s with heap := s.heap.push (seqObj "list" us.toArray 0) } := by
  obtain ⟨h1, h2, h3⟩ := ok
  have er := each_reads sy I rd rv fun d hd => by
    obtain ⟨p, hp, rfl⟩ := List.mem_map.mp hd
    obtain ⟨a1, a2, a3, a4, _⟩ := h1 p hp
    exact pairD_pure a1 a4
  have er' : EachIs (fun v d => ∃ as, Reads (midHeap s.heap us) v d.py as) us (kvs.map pairD) := er.mono fun _ _ ⟨as, r⟩ => ⟨as, PyProof.Rows.Reads.keeps (fun _ _ => mid_old) r⟩
  have el : us.length = kvs.length := by rw [er.length, List.length_map]
  let pp : D × D → PyData × PyData := fun p => (p.1.py, p.2.py)
  have e2 : EachIs (fun v p => ∃ as, Reads (midHeap s.heap us) v (pairPy p) as) us (kvs.map pp) := by
    have aux : ∀ {us : List Value} {kvs : List (D × D)}, EachIs (fun v d => ∃ as, Reads (midHeap s.heap us) v d.py as) us (kvs.map pairD) → True := fun _ => trivial
    refine PySem.W.EachIs.of_zip (by rw [List.length_map]; exact el) fun z hz' => ?_
    obtain ⟨i, hi⟩ := List.mem_iff_getElem?.mp hz'
    obtain ⟨i1, i2⟩ := List.getElem?_zip_eq_some.mp hi
    rw [List.getElem?_map] at i2
    cases ek : kvs[i]? with
    | none => rw [ek] at i2; cases i2
    | some p =>
      rw [ek] at i2
      have i2' : pp p = z.2 := Option.some.inj i2
      have hm : (z.1, pairD p) ∈ us.zip (kvs.map pairD) := List.mem_iff_getElem?.mpr ⟨i, List.getElem?_zip_eq_some.mpr ⟨i1, by rw [List.getElem?_map, ek]; rfl⟩⟩
      have r := er'.zip _ hm
      rw [← i2']
      exact r
  have hal : KeysAlike (kvs.map pp) := by
    refine ⟨fun p hp q hq => ?_, fun p hp => ?_⟩
    · obtain ⟨x, hx, rfl⟩ := List.mem_map.mp hp
      obtain ⟨y, hy, rfl⟩ := List.mem_map.mp hq
      exact h2 x hx y hy
    · obtain ⟨x, hx, rfl⟩ := List.mem_map.mp hp
      obtain ⟨a1, a2, a3, _⟩ := h1 x hx
      exact pyne a1 a3
  have hS := sortsPairs (prog := X.prog) (w := X.w) (A := A.in1) (s := { s with heap := midHeap s.heap us }) e2 hal (fun p hp q hq e => by
      obtain ⟨x, hx, rfl⟩ := List.mem_map.mp hp
      obtain ⟨y, hy, rfl⟩ := List.mem_map.mp hq
      rw [pairs_eq h3 x hx y hy e]) (fun p hp => by
      obtain ⟨x, hx, rfl⟩ := List.mem_map.mp hp
      exact (h1 x hx).2.2.2.2.2) (fun p hp => by
      obtain ⟨x, hx, rfl⟩ := List.mem_map.mp hp
      obtain ⟨a1, a2, a3, a4, a5, _⟩ := h1 x hx
      have a2' : x.1.py.depth ≤ 20 := a2
      have a5' : x.2.py.depth ≤ 20 := a5
      show A.units + 1 + x.1.py.depth + 1 < _ ∧ A.units + 1 + x.2.py.depth + 1 < _
      omega)
  refine sort_tail (κ := pairKind (midHeap s.heap us) (kvs.map pp)) I rv rd hz (fun d : D => PySem.W.keyToks ((match d with | .tup (k :: _) => k | _ => D.non).py)) ((each_mem er').mono fun v d ⟨⟨as, r⟩, hm⟩ => ?_) hS (by
    show wpNew M (.lst ((kvs.map pairD).mergeSort (PySem.W.sortLe (listOrd itemOrd) false _))) Q
    rw [map_srtP]; exact q)
  obtain ⟨p, hp, rfl⟩ := List.mem_map.mp hm
  exact pairKind_some hal (List.mem_map.mpr ⟨p, hp, rfl⟩) r
end
end L3
end
section
set_option autoImplicit false
set_option linter.all false
set_option maxRecDepth 100000
/-! L3: built-ins and methods by values -/
namespace L3
open PySem L2 PyProof.Rows

section
variable {ca : Nat → Addr} {X : Cx} {M0 M : Mp} {pins : List (Addr × Obj)} {σ3 : Lo} {σ : L2.St} {H : Hp} {s : Shared}
/-- a call by values -/
def Fn3 (ca : Nat → Addr) (X : Cx) (f : Value) (w : List D → Mp → Post → Prop) : Prop :=
  ∀ (pins : List (Addr × Obj)) (s : Shared) (σ : L2.St) (H : Hp) (M0 M : Mp) (σ3 : Lo) (ds : List D) (vs : List V) (us : List Value) (Q : Post), I3 (ct X ca) X M0 pins σ3 M σ H s → Vals vs us → RDs (ct X ca) H ds vs → w ds M Q →
    wpAny (model X.prog X.w) X.A (call f us) (EP3 (ct X ca) X M0 pins σ3 σ H M Q) X.xe s
/-- a built-in method's call by values -/
def Mt3 (ca : Nat → Addr) (X : Cx) (id : String) (w : D → List D → Mp → Post → Prop) : Prop :=
  ∀ (pins : List (Addr × Obj)) (s : Shared) (σ : L2.St) (H : Hp) (M0 M : Mp) (σ3 : Lo) (x : D) (a : V) (v : Value) (ds : List D) (vs : List V) (us : List Value) (Q : Post), I3 (ct X ca) X M0 pins σ3 M σ H s → RelV a v → RD (ct X ca) H x a → Vals vs us → RDs (ct X ca) H ds vs → w x ds M Q →
    wpAny (model X.prog X.w) X.A (call (.builtin id) (v :: us)) (EP3 (ct X ca) X M0 pins σ3 σ H M Q) X.xe s
theorem RDs.one {C : Ct} {d : D} {vs : List V} (r : RDs C H [d] vs) : ∃ v, vs = [v] ∧ RD C H d v := by
  obtain ⟨x, l, rfl, h1, h2⟩ := r
  rw [show l = [] from h2]
  exact ⟨x, rfl, h1⟩
theorem RDs.two {C : Ct} {d e : D} {vs : List V} (r : RDs C H [d, e] vs) : ∃ v w, vs = [v, w] ∧ RD C H d v ∧ RD C H e w := by
  obtain ⟨x, l, rfl, h1, h2⟩ := r
  obtain ⟨y, rfl, h3⟩ := h2.one
  exact ⟨x, y, rfl, h1, h3⟩

theorem RDs.mk1 {C : Ct} {d : D} {v : V} (r : RD C H d v) : RDs C H [d] [v] := ⟨v, [], rfl, r, rfl⟩
theorem f_len : Fn3 ca X (.builtin "len") (wpBlt .len) := by
  intro pins s σ H M0 M σ3 ds vs us Q I rv rd h
  have go : ∀ {x : V} {n : Nat}, vs = [x] → LenV X.K x H n → Q (.int n) M → wpAny (model X.prog X.w) X.A (call (.builtin "len") us) (EP3 (ct X ca) X M0 pins σ3 σ H M Q) X.xe s := fun {x n} e hl q =>
    thn (call_len pins s σ H vs us (QV (ct X ca) H M Q) I.inv rv ⟨x, n, e, hl, qv_int I.hp q⟩) fun _ _ e => ep_of I e
  match ds, h with
  | [.tup xs], h =>
    obtain ⟨x, e, p, ys, rfl, hq, rs⟩ := rd.one
    exact go e (.inr ⟨ys, hq.sq, rfl⟩) (by rw [← rs.length]; exact h)
  | [.kt xs], h =>
    obtain ⟨x, e, p, ys, rfl, hq, rs⟩ := rd.one
    exact go e (.inr ⟨ys, sqk hq, rfl⟩) (by rw [← rs.length]; exact h)
  | [.kl xs], h =>
    obtain ⟨x, e, p, ys, rfl, hq, rs⟩ := rd.one
    exact go e (.inl ⟨ys, hq.sq, rfl⟩) (by rw [← rs.length]; exact h)
  | [.str x], h =>
    obtain ⟨y, e, r⟩ := rd.one
    have r' : y = .str x := r
    subst r'
    exact go e ⟨h.1, rfl⟩ h.2
  | [.ref a], h =>
    obtain ⟨y, e, r⟩ := rd.one
    have r' : y = .ref a := r
    subst r'
    cases g : M a with
    | none => simp only [wpBlt, g] at h
    | some o =>
      cases o with
      | lst xs =>
        simp only [wpBlt, g] at h
        obtain ⟨ys, hx, rs⟩ := I.hp.lst g
        exact go e (.inl ⟨ys, SqL.of hx, rfl⟩) (by rw [← rs.length]; exact h)
      | dct kvs =>
        simp only [wpBlt, g] at h
        obtain ⟨ks, hx, pd, ty⟩ := I.dictAt g
        subst e
        obtain ⟨u, rfl, rx⟩ := vals1 rv
        cases rx
        refine d_len I.inv (.inl hx) fun t s' J => ep_now (v := .int ks.length) (d := .int ks.length) I J ⟨t, rfl⟩ rfl ?_
        rw [← pd.len]
        exact h
      | dcT kvs =>
        simp only [wpBlt, g] at h
        obtain ⟨hs, es, ep, hr, l1, hf⟩ := I.dtRaw (.inl g)
        subst e
        obtain ⟨u, rfl, rx⟩ := vals1 rv
        cases rx
        refine call_lenR hs hr hf (ep_now (v := .int es.size) (d := .int es.size) I (I.inv.tok _) ⟨_, rfl⟩ rfl ?_)
        rw [l1]
        exact h
      | _ => simp only [wpBlt, g] at h
theorem f_int : Fn3 ca X (.type "int") (wpBlt .int) := by
  intro pins s σ H M0 M σ3 ds vs us Q I rv rd h
  match ds, h with
  | [.int i], h =>
    obtain ⟨y, e, r⟩ := rd.one
    have r' : y = .int i := r
    subst r'
    exact thn (call_int1 pins s σ H vs us (QV (ct X ca) H M Q) I.inv rv (.inl ⟨i, e, qv_int I.hp h⟩)) fun _ _ e => ep_of I e
  | [.bl b], h =>
    obtain ⟨y, e, r⟩ := rd.one
    have r' : y = .bl b := r
    subst r'
    exact thn (call_int1 pins s σ H vs us (QV (ct X ca) H M Q) I.inv rv (.inr ⟨b, e, qv_int I.hp h⟩)) fun _ _ e => ep_of I e
/-- the keys that were collected -/
theorem keyVals {P : Program} {w : World} {xs : List (NestedKey × Addr × V)} {us : List (NestedKey × Addr × Value)} {es : Array DictEntry} {acc : Array Value} (he : es.toList = us.map (entryOfKey (nestedKind P w))) (xu : XU xs us)
    (it : PySem.ItemsOf (fun i v => ∃ en : DictEntry, es[i]? = some en ∧ v = en.key) acc es.size) : Vals (xs.map fun q => V.ref q.2.1) acc.toList := by
  have ea : acc.toList = us.map fun x => Value.ref x.2.1 := by
    have hl : acc.toList.length = us.length := by rw [Array.length_toList, it.1]; exact size_of_entries he
    apply List.ext_getElem?
    intro j
    rw [List.getElem?_map]
    cases hj : acc.toList[j]? with
    | none =>
      have h1 := List.getElem?_eq_none_iff.mp hj
      rw [List.getElem?_eq_none (by omega)]
      all_goals rfl
    | some v =>
      obtain ⟨en, hen, hv⟩ := it.2 j v (by rw [← Array.getElem?_toList]; exact hj)
      have qe := entry_at he j
      rw [hen] at qe
      cases hb : us[j]? with
      | none =>
        rw [hb] at qe
        exact nomatch (show some en = none from qe)
      | some b =>
        rw [hb] at qe
        have e2 : en = entryOfKey (nestedKind P w) b := Option.some.inj qe
        rw [hv, e2]
        all_goals rfl
  rw [ea]
  clear ea it he
  induction xu with
  | nil => exact .nil
  | cons h t ih => exact .cons (show RelV (V.ref _) (Value.ref _) by rw [h.2.1]; rfl) ih
theorem f_sorted (hc : X.calm = true) (sy : SysD X.K) (hu : X.A.units + 80 < cLine) : Fn3 ca X (.builtin "sorted") (wpBlt .sorted) := by
  intro pins s σ H M0 M σ3 ds vs us Q I rv rd h
  match ds, h with
  | [.ref a], h =>
    obtain ⟨y, e, r⟩ := rd.one
    have r' : y = .ref a := r
    subst r'
    subst e
    obtain ⟨u, rfl, rx⟩ := vals1 rv
    cases rx
    have hu2 : X.A.in1.units + 40 < cLine := by show X.A.units + 1 + 40 < cLine; omega
    refine Calls.call_function_entry kind_sorted plain_sorted entry_sorted (args_sorted1 _) ?_
    unfold Builtin.«sorted»
    refine wpAny_bind (m := checkCount "sorted" 1 1 _) (wpAny_pure ?_)
    have h' : (match M a with
      | some (.lst xs) => SortOk xs ∧ wpNew M (.lst (srtD xs)) Q
      | some (.dcT kvs) => SortOk (kvs.map (·.1)) ∧ wpNew M (.lst (srtD (kvs.map (·.1)))) Q
      | _ => False) := h
    cases g : M a with
    | none => rw [g] at h'; exact h'.elim
    | some o =>
      rw [g] at h'
      cases o with
      | lst xs =>
        obtain ⟨ok, q⟩ := h'
        obtain ⟨ys, hys, rs⟩ := I.hp.lst g
        obtain ⟨its, rv2, p, hz⟩ := I.inv.list (SqL.of hys)
        have hz' : its.length ≤ sizeLine := by rw [← rv2.length]; exact hz
        refine wpAny_bind (collect_list p.isList ?_ hz')
        refine wpAny_bind (wpAny_newList ?_ hz')
        have I2 : I3 (ct X ca) X M0 pins σ3 M σ H { s with heap := (s.heap.push (seqObj "list" #[] 0)).update s.heap.objs.size (Obj.mapSeq (· ++ its.toArray)) } := I.same (I.inv.kept (t' := s.toks) fun b o e => by
          rw [Heap.get?_update_ne _ _ _ _ (Nat.ne_of_lt (Heap.lt_size e))]
          exact Heap.get?_push_of_some _ e)
        exact wpAny_bind (wpAny_holding (wpAny_mono (sort_data (A := X.A.in1) (E := X.xe) sy hu2 I2 rv2 rs hz' ok q) (fun _ s' x => wpAny_pure ⟨_, rfl, x⟩) fun _ _ e => e))
      | dcT kvs =>
        obtain ⟨ok, q⟩ := h'
        obtain ⟨hs, hz, xs, us, hH, n, pt, xu, o, es, ep, ho, hx2, hdt, he, _⟩ := I.dtAt (.inl g)
        have l1 : es.size = kvs.length := by
          rw [size_of_entries he, pt.len]
          exact (Paired.length xu).symm
        refine wpAny_bind (PySem.W.kdu_collect (A := X.A.in1) (kdl_raw hs hx2 hdt) (I.inv.ok.hd hc) ho (by omega) fun h2 tk acc kp it => ?_)
        have rvk := keyVals he xu it
        have hz' : acc.toList.length ≤ sizeLine := by rw [← rvk.length, List.length_map, ← pt.len]; exact hz
        refine wpAny_bind (wpAny_newList ?_ hz')
        have I2 : I3 (ct X ca) X M0 pins σ3 M σ H { s with heap := h2, toks := tk } := I.same (I.inv.kept (t' := tk) kp)
        exact wpAny_bind (wpAny_holding (wpAny_mono (sort_data (A := X.A.in1) (E := X.xe) sy hu2 I2 rvk (pt_keys pt) hz' ok q) (fun _ s' x => wpAny_pure ⟨_, rfl, x⟩) fun _ _ e => e))
      | _ => exact h'.elim
theorem f_list (hc : X.calm = true) : Fn3 ca X (.type "list") (wpBlt .list) := by
  intro pins s σ H M0 M σ3 ds vs us Q I rv rd h
  have go : ∀ {p : Addr} {ys : List V} {xs : List D}, vs = [.ref p] → (SqL X.K H p ys ∨ SqT X.K H p ys) → RDs (ct X ca) H xs ys → wpNew M (.lst xs) Q → wpAny (model X.prog X.w) X.A (call (.type "list") us) (EP3 (ct X ca) X M0 pins σ3 σ H M Q) X.xe s := fun {p ys xs} e hq rs q =>
    thn (call_list_of pins s σ H vs us (QV (ct X ca) H M Q) I.inv rv ⟨p, ys, e, hq, fun l hl => qv_new (m := .lst xs) I.hp hl rs q⟩) fun _ _ e => ep_of I e
  match ds, h with
  | [.tup xs], h =>
    obtain ⟨x, e, p, ys, rfl, hq, rs⟩ := rd.one
    exact go e (.inr hq.sq) rs h
  | [.kt xs], h =>
    obtain ⟨x, e, p, ys, rfl, hq, rs⟩ := rd.one
    exact go e (.inr (sqk hq)) rs h
  | [.ref a], h =>
    obtain ⟨y, e, r⟩ := rd.one
    have r' : y = .ref a := r
    subst r'
    have h' : (match M a with
      | some (.lst xs) => wpNew M (.lst xs) Q
      | some (.dct kvs) => wpNew M (.lst (kvs.map (·.1))) Q
      | some (.dcT kvs) => wpNew M (.lst (kvs.map (·.1))) Q
      | _ => False) := h
    cases g : M a with
    | none => rw [g] at h'; exact h'.elim
    | some o =>
      rw [g] at h'
      cases o with
      | lst xs =>
        obtain ⟨ys, hys, rs⟩ := I.hp.lst g
        exact go e (.inl (SqL.of hys)) rs h'
      | dct kvs =>
        obtain ⟨ks, hx2, pd, ty⟩ := I.dictAt g
        have rs : ∀ {kvs : List (D × D)} {ks : List (Key × V)}, PD (ct X ca) H kvs ks → RDs (ct X ca) H (kvs.map (·.1)) (ks.map fun p => kV p.1) := by
          intro kvs ks pd
          induction pd with
          | nil => exact rfl
          | cons h t ih => exact ⟨_, _, rfl, rd_key h.1, ih⟩
        exact thn (call_listD hc pins s σ H vs us (QV (ct X ca) H M Q) I.inv rv ⟨a, ks, e, .inl hx2, fun l hl => qv_new (m := .lst (List.map (fun (p : D × D) => p.1) kvs)) I.hp hl (show RDs (ct X ca) H (List.map (fun (p : D × D) => p.1) kvs) _ from rs pd) h'⟩) fun _ _ e => ep_of I e
      | dcT kvs =>
        subst e
        obtain ⟨u, rfl, rx⟩ := vals1 rv
        cases rx
        obtain ⟨hs, hz, xs, us, hH, n, pt, xu, o, es, ep, ho, hx2, hdt, he, _⟩ := I.dtAt (.inl g)
        have l1 : es.size = kvs.length := by
          rw [size_of_entries he, pt.len]
          exact (Paired.length xu).symm
        refine PySem.W.kdl_call (kdl_raw hs hx2 hdt) (I.inv.ok.hd hc) ho (by omega) fun h2 tk acc c2 kp e it => ?_
        have rvk := keyVals he xu it
        have n1 : H s.heap.objs.size = none := I.inv.hok.fresh (Nat.le_refl _)
        have J : Inv X pins σ (upd H s.heap.objs.size (.lst (xs.map fun q => V.ref q.2.1))) { s with heap := h2, toks := tk } :=
          I.inv.laid (t' := tk) kp (Nat.le_refl _) ⟨by rw [List.length_map, ← pt.len]; exact hz, acc.toList, c2, rvk, by rw [Array.toArray_toList]; exact e⟩
        exact ep_of I ⟨.ref s.heap.objs.size, _, J, rfl, qv_new (m := .lst (List.map (fun (p : D × D) => p.1) kvs)) I.hp n1 (show RDs (ct X ca) H (List.map (fun (p : D × D) => p.1) kvs) _ from pt_keys pt) h'⟩
      | _ => exact h'.elim
theorem f_tuple : Fn3 ca X (.type "tuple") (wpBlt .tuple) := by
  intro pins s σ H M0 M σ3 ds vs us Q I rv rd h
  match ds, h with
  | [.tup xs], h =>
    obtain ⟨x, e, p, ys, rfl, hq, rs⟩ := rd.one
    exact thn (call_tuple_of pins s σ H vs us (QV (ct X ca) H M Q) I.inv rv ⟨p, ys, e, .inr ⟨hq.sq, qv_now (d := .tup xs) I.hp ⟨p, ys, rfl, hq, rs⟩ h⟩⟩) fun _ _ e => ep_of I e
  | [.kt xs], h =>
    obtain ⟨x, e, p, ys, rfl, hq, rs⟩ := rd.one
    exact thn (call_tuple_of pins s σ H vs us (QV (ct X ca) H M Q) I.inv rv ⟨p, ys, e, .inr ⟨sqk hq, qv_now (d := .kt xs) I.hp ⟨p, ys, rfl, hq, rs⟩ h⟩⟩) fun _ _ e => ep_of I e
  | [.ref a], h =>
    obtain ⟨y, e, r⟩ := rd.one
    have r' : y = .ref a := r
    subst r'
    have h' : (match M a with
      | some (.lst xs) => Q (.tup xs) M
      | _ => False) := h
    cases g : M a with
    | none => rw [g] at h'; exact h'.elim
    | some o =>
      rw [g] at h'
      cases o with
      | lst xs =>
        obtain ⟨ys, hys, rs⟩ := I.hp.lst g
        exact thn (call_tuple_of pins s σ H vs us (QV (ct X ca) H M Q) I.inv rv ⟨a, ys, e, .inl ⟨SqL.of hys, fun l hl => qv_tup I.hp hl rs h'⟩⟩) fun _ _ e => ep_of I e
      | _ => exact h'.elim
theorem rds_int {C : Ct} {H : Hp} : ∀ {ns : List Int} {ys : List V}, RDs C H (ns.map D.int) ys → ys = ns.map V.int
  | [], _, h => h
  | n :: ns, _, h => by
    obtain ⟨x, r, rfl, h1, h2⟩ := h
    rw [show x = .int n from h1, rds_int h2]
    rfl
theorem f_sum (hc : X.calm = true) : Fn3 ca X (.builtin "sum") (wpBlt .sum) := by
  intro pins s σ H M0 M σ3 ds vs us Q I rv rd h
  match ds, h with
  | [.ref a], h =>
    obtain ⟨y, e, r⟩ := rd.one
    have r' : y = .ref a := r
    subst r'
    have h' : (match M a with
      | some (.lst xs) => ∃ ns : List Int, xs = ns.map .int ∧ Q (.int ns.sum) M
      | _ => False) := h
    cases g : M a with
    | none => rw [g] at h'; exact h'.elim
    | some o =>
      rw [g] at h'
      cases o with
      | lst xs =>
        obtain ⟨ns, rfl, q⟩ := h'
        obtain ⟨ys, hys, rs⟩ := I.hp.lst g
        rw [rds_int rs] at hys
        exact thn (cr_sum hc pins s σ H vs us (QV (ct X ca) H M Q) I.inv rv ⟨a, ns, e, SqL.of hys, qv_int I.hp q⟩) fun _ _ e => ep_of I e
      | _ => exact h'.elim
theorem f_repr (hg : X.A.guards = some []) (hu : X.A.units + 80 < cLine) (sy : SysD X.K) : Fn3 ca X (.builtin "repr") (wpBlt .repr) := by
  intro pins s σ H M0 M σ3 ds vs us Q I rv rd h
  match ds, h with
  | [d], h =>
    obtain ⟨p, hd, hs, hz, hp, q⟩ := h
    obtain ⟨y, rfl, r⟩ := rd.one
    obtain ⟨u, rfl, rx⟩ := vals1 rv
    obtain ⟨as, rr, nd⟩ := hd.reads sy I r rx
    have fin : ∀ (h' : Heap) (t tk : Tok), (∀ b o, s.heap.get? b = some o → h'.get? b = some o) → EP3 (ct X ca) X M0 pins σ3 σ H M Q (.str p.shown t) { s with heap := h', toks := tk } := fun h' t tk k =>
      ep_now (v := .str p.shown) (d := .str p.shown) I (I.inv.kept k) ⟨_, rfl⟩ rfl q
    cases rr with
    | none => exact PySem.P.repr_of_none (fin s.heap _ _ fun _ _ e => e)
    | bool b => exact PySem.P.repr_of_bool (by simp only [PyData.shown] at fin ⊢; exact fin s.heap _ _ fun _ _ e => e)
    | int i t => exact PySem.P.repr_of_int (by simpa [PyData.showable] using hs) (by simp only [PyData.shown] at fin; exact fin s.heap _ _ fun _ _ e => e)
    | str x t => exact PySem.P.repr_of_str (by simp only [PyData.shown] at fin; exact fin s.heap _ _ fun _ _ e => e) (by simpa only [PyData.shown] using hz)
    | list h1 h2 h3 h4 => exact repr_of_reads' (.list h1 h2 h3 h4) hs (fun _ => nd) hg (by omega) (fun _ _ e => e) (fun h' u tk k => fin h' u tk k) hz
    | tuple h1 h2 h3 h4 => exact repr_of_reads' (.tuple h1 h2 h3 h4) hs (fun _ => nd) hg (by omega) (fun _ _ e => e) (fun h' u tk k => fin h' u tk k) hz
    | dict h1 h2 h3 h4 h5 => exact repr_of_reads' (.dict h1 h2 h3 h4 h5) hs (fun _ => nd) hg (by omega) (fun _ _ e => e) (fun h' u tk k => fin h' u tk k) hz
theorem f_max (hc : X.calm = true) : Fn3 ca X (.builtin "max") (wpBlt .max) := by
  intro pins s σ H M0 M σ3 ds vs us Q I rv rd h
  match ds, h with
  | [.int i, .int j], h =>
    obtain ⟨v, w, e, r1, r2⟩ := rd.two
    have e1 : v = .int i := r1
    have e2 : w = .int j := r2
    subst e1 e2
    exact thn (call_max2 hc pins s σ H vs us (QV (ct X ca) H M Q) I.inv rv ⟨i, j, e, qv_int I.hp h⟩) fun _ _ e => ep_of I e
theorem f_min (hc : X.calm = true) : Fn3 ca X (.builtin "min") (wpBlt .min) := by
  intro pins s σ H M0 M σ3 ds vs us Q I rv rd h
  match ds, h with
  | [.int i, .int j], h =>
    obtain ⟨v, w, e, r1, r2⟩ := rd.two
    have e1 : v = .int i := r1
    have e2 : w = .int j := r2
    subst e1 e2
    exact thn (call_min2 hc pins s σ H vs us (QV (ct X ca) H M Q) I.inv rv ⟨i, j, e, qv_int I.hp h⟩) fun _ _ e => ep_of I e
theorem f_abs : Fn3 ca X (.builtin "abs") (wpBlt .abs) := by
  intro pins s σ H M0 M σ3 ds vs us Q I rv rd h
  match ds, h with
  | [.int i], h =>
    obtain ⟨y, e, r⟩ := rd.one
    have r' : y = .int i := r
    subst r'
    exact thn (call_abs pins s σ H vs us (QV (ct X ca) H M Q) I.inv rv ⟨i, e, qv_int I.hp h⟩) fun _ _ e => ep_of I e
theorem f_str : Fn3 ca X (.type "str") (wpBlt .str) := by
  intro pins s σ H M0 M σ3 ds vs us Q I rv rd h
  match ds, h with
  | [.int i], h =>
    obtain ⟨y, e, r⟩ := rd.one
    have r' : y = .int i := r
    subst r'
    exact thn (call_str_int pins s σ H vs us (QV (ct X ca) H M Q) I.inv rv ⟨i, e, h.1, qv_str I.hp h.2⟩) fun _ _ e => ep_of I e
/-- a method by values -/
theorem mt3_of {id : String} {w : D → List D → Mp → Post → Prop} {r : V → List V → Hp → VK → Prop} (hm : MtR X id r)
    (h : ∀ (H : Hp) (M : Mp) (x : D) (a : V) (ds : List D) (vs : List V) (Q : Post), RM (ct X ca) H M → RD (ct X ca) H x a → RDs (ct X ca) H ds vs → w x ds M Q → r a vs H (QV (ct X ca) H M Q)) : Mt3 ca X id w :=
  fun pins s σ H M0 M σ3 x a v ds vs us Q I ra hx rv rd hw => thn (hm pins s σ H a vs v us _ I.inv ra rv (h H M x a ds vs Q I.hp hx rd hw)) fun _ _ q => ep_of I q
/-- a list is written -/
theorem qv_wr {C : Ct} {Q : Post} {a : Addr} {ds es : List D} {ys : List V} {v : V} {d : D} (r : RM C H M) (hm : M a = some (.lst ds)) (rs : RDs C H es ys) (rd : RD C H d v) (q : Q d (mset M a (.lst es))) :
    QV C H M Q v (upd H a (.lst ys)) :=
  ⟨d, mset M a (.lst es), r.write hm (RDs.keep (r.tupKw hm) rs), write_stp r hm, rd.keep (r.tupKw hm), q⟩
theorem m_append : Mt3 ca X "list.append" (fun x ds M Q => rcv x M = some .lst ∧ wpMth .append x ds M Q) := mt3_of mt_append fun H M x a ds vs Q r hx hd ⟨hk, h⟩ => by
  cases x with
  | ref p =>
    have e : a = .ref p := hx; subst e
    cases g : M p with
    | none => simp only [wpMth, g] at h
    | some o =>
      cases o with
      | lst ys =>
        match ds, h with
        | [d], h =>
          simp only [wpMth, g] at h
          obtain ⟨xs, hxs, rs⟩ := r.lst g
          obtain ⟨v, rfl, rv⟩ := hd.one
          exact ⟨p, xs, v, rfl, rfl, hxs, by rw [← rs.length]; exact h.1, qv_wr r g (RDs.append rs (RDs.mk1 rv)) (show RD (ct X ca) H .non .non from rfl) h.2⟩
        | [], h => simp only [wpMth, g] at h
        | _ :: _ :: _, h => simp only [wpMth, g] at h
      | _ => simp only [rcv, g] at hk; try cases hk
  | _ => exact absurd hk (by simp [rcv])
theorem m_extend : Mt3 ca X "list.extend" (fun x ds M Q => rcv x M = some .lst ∧ wpMth .extend x ds M Q) := by
  intro pins s σ H M0 M σ3 x a v ds vs us Q I ra hx rv rd ⟨hk, h⟩
  cases x with
  | ref p =>
    have e : a = .ref p := hx; subst e
    cases g : M p with
    | none => simp only [wpMth, g] at h
    | some o =>
      cases o with
      | lst ys =>
        match ds, h with
        | [.ref b], h =>
          simp only [wpMth, g, wpExt] at h
          cases gb : M b with
          | none => simp only [gb] at h
          | some o2 =>
            cases o2 with
            | lst zs =>
              simp only [gb] at h
              obtain ⟨xs, hxs, rs⟩ := I.hp.lst g
              obtain ⟨ws, hws, rs2⟩ := I.hp.lst gb
              obtain ⟨w, rfl, rw'⟩ := rd.one
              have ew : w = .ref b := rw'
              subst ew
              refine thn (mt_extend pins s σ H (.ref p) [.ref b] v us (QV (ct X ca) H M Q) I.inv ra rv ⟨p, b, xs, ws, rfl, rfl, hxs, hws, by rw [← rs.length, ← rs2.length]; exact h.1, qv_wr I.hp g (RDs.append rs rs2) (show RD (ct X ca) H .non .non from rfl) h.2⟩) fun _ _ e => ep_of I e
            | _ => simp only [gb] at h
        | [], h => simp only [wpMth, g] at h
        | [.tup ys], h => simp only [wpMth, g, wpExt] at h
        | [.non], h => simp only [wpMth, g, wpExt] at h
        | [.bl _], h => simp only [wpMth, g, wpExt] at h
        | [.int _], h => simp only [wpMth, g, wpExt] at h
        | [.str _], h => simp only [wpMth, g, wpExt] at h
        | [.kl _], h => simp only [wpMth, g, wpExt] at h
        | [.kt _], h => simp only [wpMth, g, wpExt] at h
        | [.exn _ _], h => simp only [wpMth, g, wpExt] at h
        | _ :: _ :: _, h => simp only [wpMth, g] at h
      | _ => simp only [rcv, g] at hk; try cases hk
  | _ => exact absurd hk (by simp [rcv])
/-- from a list's end -/
theorem m_pop : Mt3 ca X "list.pop" (fun x ds M Q => rcv x M = some .lst ∧ wpMth .pop x ds M Q) := by
  intro pins s σ H M0 M σ3 x a v ds vs us Q I ra hx rv rd ⟨hk, h⟩
  cases x with
  | ref p =>
    have e : a = .ref p := hx; subst e
    cases g : M p with
    | none => simp only [wpMth, g] at h
    | some o =>
      cases o with
      | lst ys =>
        obtain ⟨xs, hxs, rs⟩ := I.hp.lst g
        match ds, h with
        | [], h =>
          simp only [wpMth, g] at h
          obtain ⟨zs, d, rfl, q⟩ := h
          obtain ⟨ws, w, rfl, r1, r2⟩ := rs.splitLast
          rw [show vs = [] from rd] at rv
          refine thn (mt_pop pins s σ H (.ref p) [] v us (QV (ct X ca) H M Q) I.inv ra rv ⟨p, ws ++ [w], w, rfl, rfl, hxs, by simp, ?_⟩) fun _ _ e => ep_of I e
          rw [List.dropLast_concat]
          exact qv_wr I.hp g r1 r2 q
        | [.int i], h =>
          simp only [wpMth, g] at h
          obtain ⟨d, h0, hd, q⟩ := h
          obtain ⟨w, rfl, rw'⟩ := rd.one
          have ew : w = .int i := rw'
          subst ew
          obtain ⟨y, hy, ry⟩ := rs.get hd
          have hlt : i.toNat < xs.length := (List.getElem?_eq_some_iff.mp hy).1
          have hz : xs.length ≤ sizeLine := (show ObjOk X.prog X.w H s.heap p (.lst xs) from I.inv.hok p _ hxs).1
          rw [sizeLine_eq] at hz
          refine thn (mt_popAt pins s σ H (.ref p) [.int i] v us (QV (ct X ca) H M Q) I.inv ra rv ⟨p, xs, i, i.toNat, y, rfl, rfl, hxs, by omega, by omega, ?_, hy, qv_wr I.hp g (rs.eraseIdx i.toNat) ry q⟩) fun _ _ e => ep_of I e
          unfold seqIndex?
          have h1 : ¬ i < 0 := by omega
          simp only [h1, if_false]
          first
            | rw [if_pos (by omega)]
            | (simp; omega)
        | [.non], h => simp only [wpMth, g] at h
        | [.bl _], h => simp only [wpMth, g] at h
        | [.str _], h => simp only [wpMth, g] at h
        | [.tup _], h => simp only [wpMth, g] at h
        | [.ref _], h => simp only [wpMth, g] at h
        | [.kl _], h => simp only [wpMth, g] at h
        | [.kt _], h => simp only [wpMth, g] at h
        | [.exn _ _], h => simp only [wpMth, g] at h
        | _ :: _ :: _, h => simp only [wpMth, g] at h
      | _ => simp only [rcv, g] at hk; try cases hk
  | _ => exact absurd hk (by simp [rcv])
/-- what stands at a place is asked by its value -/
theorem at_eKey {C : Ct} {h : Heap} (ok : HOk C.P C.w H h) (kin : C.K.In h) {x : D} : ∀ {ds : List D} {xs : List V} {us : List Value}, RDs C H ds xs → Vals xs us → (∀ d ∈ ds, d.flat = true) → ∀ (i : Nat) (hi : i < us.length), ∃ d, ds[i]? = some d ∧ eKey h x.key us[i] = d.eqv x
  | [], xs, us, r, q, _, i, hi => by rw [show xs = [] from r] at q; cases q; cases hi
  | d :: ds, xs, us, r, q, p, i, hi => by
    obtain ⟨y, l, rfl, r1, r2⟩ := r
    cases q with
    | cons q1 q2 =>
      cases i with
      | zero =>
        refine ⟨d, rfl, ?_⟩
        rw [List.getElem_cons_zero, eKey_of (RD.is ok kin r1 q1 (flat_of (p d List.mem_cons_self)).1)]
        rfl
      | succ i => exact at_eKey ok kin r2 q2 (fun z hz => p z (List.mem_cons_of_mem _ hz)) i (by simpa using hi)
/-- out of a list -/
theorem m_remove (hu : X.A.units + 80 < cLine) : Mt3 ca X "list.remove" (fun x ds M Q => rcv x M = some .lst ∧ wpMth .remove x ds M Q) := by
  intro pins s σ H M0 M σ3 x a v ds vs us Q I ra hx rv rd ⟨hk, h⟩
  cases x with
  | ref p =>
    have e : a = .ref p := hx; subst e
    cases ra
    cases g : M p with
    | none => simp only [wpMth, g] at h
    | some o =>
      cases o with
      | lst ys =>
        match ds, h with
        | [], h => simp only [wpMth, g] at h
        | _ :: _ :: _, h => simp only [wpMth, g] at h
        | [d], h =>
          simp only [wpMth, g] at h
          obtain ⟨⟨fx, fd⟩, j, hj, q⟩ := h
          obtain ⟨xs, hxs, rs⟩ := I.hp.lst g
          obtain ⟨w, rfl, rw'⟩ := rd.one
          obtain ⟨u, rfl, ru⟩ := vals1 rv
          obtain ⟨z, its, n, r, hl, eh⟩ := I.inv.lstM hxs
          obtain ⟨px, dx⟩ := flat_of fx
          obtain ⟨hjl, hj1, hj2⟩ := List.findIdx?_eq_some_iff_getElem.mp hj
          have hlen : its.length = ys.length := by rw [← hl, rs.length]
          have hji : j < its.length := by omega
          have hat : ∀ (i : Nat) (hi : i < its.length), eKey s.heap d.key its[i] = (ys[i]'(by omega)).eqv d := fun i hi => by
            obtain ⟨y, h1, h2⟩ := at_eKey I.ok I.kin (x := d) rs r fd i hi
            rw [List.getElem?_eq_getElem (by omega)] at h1
            cases h1
            exact h2
          refine call_meets PySem.F.slot_list_remove ⟨_, eh, rfl⟩ PySem.F.entry_list_remove (PySem.F.args_list_remove_2 _ _)
            (SeqAt.list_removeAt p its.toArray n none #[] u (eKey s.heap d.key) j (by rw [List.size_toArray]; exact hji) (by have := hat j hji; rw [List.getElem_toArray, this]; exact hj1) (fun m hm hmj => by
              rw [List.size_toArray] at hm
              have := hat m hm
              rw [List.getElem_toArray, this]
              have := hj2 m hmj
              simpa using this) (by rw [List.size_toArray]; omega)) ⟨eh, (fun y hy => mem_eKey (by have e : X.A.in1.units = X.A.units + 1 := rfl; omega) I.ok I.kin (RD.is I.ok I.kin rw' ru px) dx rs r fd y (by simpa using hy)), ?_⟩
          have J := I.inv.lset (its' := its.eraseIdx j) (ys := xs.eraseIdx j) (t' := s.toks) (f := fun zs => zs.eraseIdxIfInBounds j) hxs eh (by rw [List.eraseIdxIfInBounds_toArray]) (r.eraseIdx j) (by have := len_erase xs j; omega)
          exact ep_of I ⟨.non, _, J, rfl, qv_wr I.hp g (rs.eraseIdx j) (show RD (ct X ca) H .non .non from rfl) q⟩
      | _ => simp only [rcv, g] at hk; try cases hk
  | _ => exact absurd hk (by simp [rcv])
theorem m_clear : Mt3 ca X "list.clear" (fun x ds M Q => rcv x M = some .lst ∧ wpMth .clear x ds M Q) := mt3_of mt_clear fun H M x a ds vs Q r hx hd ⟨hk, h⟩ => by
  cases x with
  | ref p =>
    have e : a = .ref p := hx; subst e
    cases g : M p with
    | none => simp only [wpMth, g] at h
    | some o =>
      cases o with
      | lst ys =>
        match ds, h with
        | [], h =>
          simp only [wpMth, g] at h
          obtain ⟨xs, hxs, rs⟩ := r.lst g
          exact ⟨p, xs, rfl, hd, hxs, qv_wr r g (show RDs (ct X ca) H [] [] from rfl) (show RD (ct X ca) H .non .non from rfl) h⟩
        | _ :: _, h => simp only [wpMth, g] at h
      | _ => simp only [rcv, g] at hk; try cases hk
  | _ => exact absurd hk (by simp [rcv])
theorem rcv_dct {x : D} {M : Mp} (h : rcv x M = some .dct) : ∃ a o, x = .ref a ∧ M a = some o ∧ ((∃ kvs, o = .dct kvs) ∨ (∃ kvs, o = .lck kvs) ∨ (∃ kvs, o = .dcT kvs) ∨ ∃ kvs, o = .lkT kvs) := by
  cases x with
  | ref a =>
    cases e : M a with
    | none => simp only [rcv, e] at h; cases h
    | some o => cases o with
      | dct kvs => exact ⟨a, _, rfl, e, .inl ⟨kvs, rfl⟩⟩
      | lck kvs => exact ⟨a, _, rfl, e, .inr (.inl ⟨kvs, rfl⟩)⟩
      | dcT kvs => exact ⟨a, _, rfl, e, .inr (.inr (.inl ⟨kvs, rfl⟩))⟩
      | lkT kvs => exact ⟨a, _, rfl, e, .inr (.inr (.inr ⟨kvs, rfl⟩))⟩
      | _ => simp only [rcv, e] at h; cases h
  | _ => cases h
theorem wpMth_dct {m : Mth} {a : Addr} {o : MO} {args : List D} {Q : Post} (g : M a = some o) (ho : (∃ kvs, o = .dct kvs) ∨ (∃ kvs, o = .lck kvs) ∨ (∃ kvs, o = .dcT kvs) ∨ ∃ kvs, o = .lkT kvs) (h : wpMth m (.ref a) args M Q) : wpDm m a o args M Q := by
  rcases ho with ⟨kvs, rfl⟩ | ⟨kvs, rfl⟩ | ⟨kvs, rfl⟩ | ⟨kvs, rfl⟩ <;> (simp only [wpMth, g] at h; exact h)
theorem dk_inv {o : MO} {k : D} {kvs : List (D × D)} (h : o.dk k = some kvs) : ((o = .dct kvs ∨ o = .lck kvs) ∧ k.hk1 = true) ∨ ((o = .dcT kvs ∨ o = .lkT kvs) ∧ k.hkT = true) := by
  cases o with
  | dct l => by_cases e : k.hk1 = true <;> simp [MO.dk, e] at h; subst h; exact .inl ⟨.inl rfl, e⟩
  | lck l => by_cases e : k.hk1 = true <;> simp [MO.dk, e] at h; subst h; exact .inl ⟨.inr rfl, e⟩
  | dcT l => by_cases e : k.hkT = true <;> simp [MO.dk, e] at h; subst h; exact .inr ⟨.inl rfl, e⟩
  | lkT l => by_cases e : k.hkT = true <;> simp [MO.dk, e] at h; subst h; exact .inr ⟨.inr rfl, e⟩
  | _ => simp [MO.dk] at h
theorem I3.dkRd (I : I3 (ct X ca) X M0 pins σ3 M σ H s) {a : Addr} {kvs : List (D × D)} (h : M a = some (.dct kvs) ∨ M a = some (.lck kvs)) : ∃ ks : List (Key × V), Rd H a (.dK ks) ∧ PD (ct X ca) H kvs ks := by
  rcases h with h | h
  · obtain ⟨ks, hx, pd, _⟩ := I.dictAt h
    exact ⟨ks, .inl hx, pd⟩
  · obtain ⟨ob, ks, hx, pd, _⟩ := I.lckAt h
    exact ⟨ks, .inr ⟨ob, hx⟩, pd⟩
theorem dk_or {C : Ct} {kvs : List (D × D)} {ks : List (Key × V)} {k : Key} {x z : D} {zv : V} (kr : KRel x k) (pd : PD C H kvs ks) (rz : RD C H z zv) : RD C H ((dget kvs x).getD z) ((valV ks k).getD zv) := by
  obtain ⟨h1, h2⟩ := dget_val kr pd
  cases e : dget kvs x with
  | some d =>
    obtain ⟨v, l, r⟩ := h1 d e
    rw [l]; exact r
  | none =>
    have : (valV ks k).isSome = false := by
      rw [← h2]
      unfold dget at e
      rw [Option.map_eq_none_iff, List.find?_eq_none] at e
      unfold dhas
      rw [List.any_eq_false]
      exact fun p hp => by simpa using e p hp
    cases e2 : valV ks k with
    | none => exact rz
    | some v => rw [e2] at this; cases this
theorem m_dget (hu : X.A.units + 80 < cLine) : Mt3 ca X "dict.get" (fun x ds M Q => rcv x M = some .dct ∧ wpMth .get x ds M Q) := by
  intro pins s σ H M0 M σ3 x a v ds vs us Q I ra hx rv rd ⟨hk, h⟩
  obtain ⟨p, o, rfl, g, ho⟩ := rcv_dct hk
  have e : a = .ref p := hx; subst e
  cases ra
  have h' := wpMth_dct g ho h
  clear h
  match ds, h' with
  | [k], h' =>
    obtain ⟨kvs, hd, q⟩ := h'
    obtain ⟨y, rfl, ry⟩ := rd.one
    obtain ⟨u, rfl, ru⟩ := vals1 rv
    rcases dk_inv hd with ⟨eo, hk1⟩ | ⟨eo, hkt⟩
    · obtain ⟨ks, hr, pd⟩ := I.dkRd (a := p) (kvs := kvs) (by rcases eo with rfl | rfl; exact .inl g; exact .inr g)
      obtain ⟨kk, rfl, kr⟩ := key_rd ry hk1
      exact d_get1 (by omega) I.inv (.inl ⟨ks, kk, hr, rfl, rfl⟩) ru fun w' s' J rw' => ep_now I J rw' (dk_or kr pd (z := .non) (zv := .non) rfl) q
    · exact t_get1 (by omega) I (kvs := kvs) (by rcases eo with rfl | rfl; exact .inl g; exact .inr g) ry ru hkt fun w w' s' J r1 r2 => ep_now I J r2 r1 q
  | [k, z], h' =>
    obtain ⟨kvs, hd, q⟩ := h'
    obtain ⟨y, zv, rfl, ry, rz⟩ := rd.two
    obtain ⟨u, uz, rfl, ru, ruz⟩ := vals2 rv
    rcases dk_inv hd with ⟨eo, hk1⟩ | ⟨eo, hkt⟩
    · obtain ⟨ks, hr, pd⟩ := I.dkRd (a := p) (kvs := kvs) (by rcases eo with rfl | rfl; exact .inl g; exact .inr g)
      obtain ⟨kk, rfl, kr⟩ := key_rd ry hk1
      exact d_get2 (by omega) I.inv (.inl ⟨ks, kk, hr, rfl, rfl⟩) ru ruz fun w' s' J rw' => ep_now I J rw' (dk_or kr pd rz) q
    · exact t_get2 (by omega) I (kvs := kvs) (by rcases eo with rfl | rfl; exact .inl g; exact .inr g) ry ru hkt rz ruz fun w w' s' J r1 r2 => ep_now I J r2 r1 q
  | [], h' => exact h'.elim
  | _ :: _ :: _ :: _, h' => exact h'.elim
theorem pd_drop {C : Ct} {x : D} {k : Key} (hx : KRel x k) : ∀ {kvs : List (D × D)} {ks : List (Key × V)}, PD C H kvs ks → PD C H (ddel kvs x) (dropK ks k)
  | _, _, .nil => .nil
  | _, _, .cons (a := p) (b := q) r t => by
    have ih := pd_drop hx t
    unfold ddel dropK at ih ⊢
    have e := eqv_key r.1 hx
    by_cases hk : q.1 = k
    · simp only [List.filter_cons, e, hk, decide_true, Bool.not_true, Bool.false_eq_true, if_false, ne_eq, not_true_eq_false, decide_false]
      exact ih
    · simp only [List.filter_cons, e, hk, decide_false, Bool.not_false, if_true, ne_eq, not_false_eq_true, decide_true]
      exact .cons r ih
/-- a dict of ints and texts is written -/
theorem dk_wr {C : Ct} {a : Addr} {kvs kvs' : List (D × D)} {ks' : List (Key × V)} (r : RM C H M) (hm : M a = some (.dct kvs)) (pd : PD C H kvs' ks') : RM C (upd H a (.dK ks')) (mset M a (.dct kvs')) ∧ Stp H M (upd H a (.dK ks')) (mset M a (.dct kvs')) :=
  ⟨r.write (m' := .dct kvs') hm ⟨ks', rfl, PD.keep (r.tupKw hm) pd⟩, write_stp r hm⟩
theorem m_dpop (hu : X.A.units + 80 < cLine) : Mt3 ca X "dict.pop" (fun x ds M Q => rcv x M = some .dct ∧ wpMth .pop x ds M Q) := by
  intro pins s σ H M0 M σ3 x a v ds vs us Q I ra hx rv rd ⟨hk, h⟩
  obtain ⟨p, o, rfl, g, ho⟩ := rcv_dct hk
  have e : a = .ref p := hx; subst e
  cases ra
  have h' := wpMth_dct g ho h
  clear h
  match ds, h' with
  | [k], h' =>
    obtain ⟨y, rfl, ry⟩ := rd.one
    obtain ⟨u, rfl, ru⟩ := vals1 rv
    rcases ho with ⟨kvs, rfl⟩ | ⟨kvs, rfl⟩ | ⟨kvs, rfl⟩ | ⟨kvs, rfl⟩
    · obtain ⟨hk1, d, hd, q⟩ := h'
      obtain ⟨ks, hH, pd, _⟩ := I.dictAt g
      obtain ⟨kk, rfl, kr⟩ := key_rd ry hk1
      obtain ⟨w, l, rw'⟩ := (dget_val kr pd).1 d hd
      obtain ⟨rm, st⟩ := dk_wr I.hp g (pd_drop kr pd)
      exact d_pop I.inv hH ru l (.inl rfl) fun w' s' J r2 => ⟨d, _, w, _, I.to J rm st, r2, rw'.keep (st.tupK I.hp), st, q⟩
    · exact h'.elim
    · obtain ⟨hkt, d, hd, q⟩ := h'
      exact t_pop (by omega) I g ry ru hkt hd (.inl rfl) fun H2 w w' s' I2 st r1 r2 => ⟨d, _, w, H2, I2, r2, r1, st, q⟩
    · exact h'.elim
  | [k, z], h' =>
    obtain ⟨y, zv, rfl, ry, rz⟩ := rd.two
    obtain ⟨u, uz, rfl, ru, ruz⟩ := vals2 rv
    rcases ho with ⟨kvs, rfl⟩ | ⟨kvs, rfl⟩ | ⟨kvs, rfl⟩ | ⟨kvs, rfl⟩
    · obtain ⟨hk1, q⟩ := h'
      obtain ⟨ks, hH, pd, _⟩ := I.dictAt g
      obtain ⟨kk, rfl, kr⟩ := key_rd ry hk1
      cases hd : dget kvs k with
      | some d =>
        rw [hd] at q
        obtain ⟨w, l, rw'⟩ := (dget_val kr pd).1 d hd
        obtain ⟨rm, st⟩ := dk_wr I.hp g (pd_drop kr pd)
        exact d_pop I.inv hH ru l (.inr ⟨uz, rfl⟩) fun w' s' J r2 => ⟨d, _, w, _, I.to J rm st, r2, rw'.keep (st.tupK I.hp), st, q⟩
      | none =>
        rw [hd] at q
        have hl : valV ks kk = none := by
          have h2 := (dget_val kr pd).2
          unfold dget at hd
          rw [Option.map_eq_none_iff, List.find?_eq_none] at hd
          have : dhas kvs k = false := by
            unfold dhas
            rw [List.any_eq_false]
            exact fun p hp => by simpa using hd p hp
          rw [this] at h2
          cases e2 : valV ks kk with
          | none => rfl
          | some v => rw [e2] at h2; cases h2
        exact d_popD I.inv hH ru hl fun s' J => ep_now I J ruz rz q
    · exact h'.elim
    · obtain ⟨hkt, q⟩ := h'
      cases hd : dget kvs k with
      | some d =>
        rw [hd] at q
        exact t_pop (by omega) I g ry ru hkt hd (.inr ⟨uz, rfl⟩) fun H2 w w' s' I2 st r1 r2 => ⟨d, _, w, H2, I2, r2, r1, st, q⟩
      | none =>
        rw [hd] at q
        exact t_popD (by omega) I g ry ru hkt hd fun s' J => ep_now I J ruz rz q
    · exact h'.elim
  | [], h' => exact h'.elim
  | _ :: _ :: _ :: _, h' => exact h'.elim
theorem m_dclear : Mt3 ca X "dict.clear" (fun x ds M Q => rcv x M = some .dct ∧ wpMth .clear x ds M Q) := by
  intro pins s σ H M0 M σ3 x a v ds vs us Q I ra hx rv rd ⟨hk, h⟩
  obtain ⟨p, o, rfl, g, ho⟩ := rcv_dct hk
  have e : a = .ref p := hx; subst e
  cases ra
  have h' := wpMth_dct g ho h
  clear h
  match ds, h' with
  | [], h' =>
    have ev : vs = [] := rd
    subst ev
    have eu := rv.zero
    subst eu
    rcases ho with ⟨kvs, rfl⟩ | ⟨kvs, rfl⟩ | ⟨kvs, rfl⟩ | ⟨kvs, rfl⟩
    · obtain ⟨ks, hH, pd, _⟩ := I.dictAt g
      obtain ⟨rm, st⟩ := dk_wr I.hp g (kvs' := []) (ks' := []) .nil
      exact d_clear I.inv hH fun s' J => ⟨.non, _, .non, _, I.to J rm st, rfl, rfl, st, h'⟩
    · exact h'.elim
    · exact t_clear I g fun H2 s' I2 st => ⟨.non, _, .non, H2, I2, rfl, rfl, st, h'⟩
    · exact h'.elim
theorem m_tupIndex : Mt3 ca X "tuple.index" (fun x ds M Q => rcv x M = some .tup ∧ wpMth .index x ds M Q) := mt3_of mt_tup_index fun H M x a ds vs Q r hx hd ⟨hk, h⟩ => by
  cases x with
  | kt xs =>
    match ds, h with
    | [d], h =>
      obtain ⟨ys, z, j, e1, e2, h1, h2, q⟩ := h
      subst e1 e2
      obtain ⟨p, ws, rfl, hq, rs⟩ := hx
      obtain ⟨v, rfl, rv⟩ := hd.one
      have ev : v = .str z := rv
      subst ev
      have ew : ∀ {ys : List Str} {ws : List V}, RDs (ct X ca) H (ys.map D.str) ws → ws = ys.map V.str := by
        intro ys
        induction ys with
        | nil => intro ws r; exact r
        | cons y ys ih =>
          intro ws r
          obtain ⟨w, l, rfl, r1, r2⟩ := r
          rw [ih r2, show w = .str y from r1]
          rfl
      rw [ew rs] at hq
      exact ⟨p, ys, z, j, rfl, rfl, sqk hq, h1, h2, qv_int r q⟩
    | [], h => exact h.elim
    | _ :: _ :: _, h => exact h.elim
  | ref p =>
    exfalso
    cases g : M p with
    | none => simp only [rcv, g] at hk; cases hk
    | some o => cases o <;> (simp only [rcv, g] at hk; cases hk)
  | _ => cases hk
theorem allS_rd {C : Ct} {H : Hp} : ∀ {ds : List D} {ys : List Str} {xs : List V}, allS ds = some ys → RDs C H ds xs → xs = ys.map V.str
  | [], ys, xs, h, r => by
    cases h
    exact r
  | d :: ds, ys, xs, h, r => by
    cases d with
    | str y =>
      have h' : (allS ds).map (y :: ·) = some ys := h
      cases e : allS ds with
      | none => rw [e] at h'; cases h'
      | some zs =>
        rw [e] at h'
        cases h'
        obtain ⟨v, l, rfl, r1, r2⟩ := r
        rw [show v = .str y from r1, allS_rd e r2]
        rfl
    | _ => cases h
theorem m_strJoin : Mt3 ca X "str.join" (fun x ds M Q => rcv x M = some .str ∧ wpMth .join x ds M Q) := mt3_of mt_join fun H M x a ds vs Q r hx hd ⟨hk, h⟩ => by
  cases x with
  | str z =>
    match ds, h with
    | [.ref p], h =>
      obtain ⟨v, rfl, rv⟩ := hd.one
      have ev : v = .ref p := rv
      subst ev
      have h : (match M p with
        | some (.lst ds) => ∃ ys, allS ds = some ys ∧ (ys.map (·.length)).sum + ys.length * z.length ≤ 16777216 ∧ Q (.str (Txt.join z ys)) M
        | _ => False) := h
      cases g : M p with
      | none => rw [g] at h; exact h.elim
      | some o =>
        rw [g] at h
        cases o with
        | lst es =>
          obtain ⟨ys, e1, e2, q⟩ := h
          obtain ⟨xs, hH, rs⟩ := r.lst g
          have ex := allS_rd e1 rs
          subst ex
          exact ⟨z, p, ys, hx, rfl, .inl (SqL.of hH), e2, qv_str r q⟩
        | _ => exact h.elim
    | [], h => exact h.elim
    | _ :: _ :: _, h => simp only [wpMth] at h
    | [.non], h => simp only [wpMth] at h
    | [.bl _], h => simp only [wpMth] at h
    | [.int _], h => simp only [wpMth] at h
    | [.str _], h => simp only [wpMth] at h
    | [.tup _], h => simp only [wpMth] at h
    | [.kt _], h => simp only [wpMth] at h
    | [.kl _], h => simp only [wpMth] at h
    | [.exn _ _], h => simp only [wpMth] at h
  | ref p =>
    exfalso
    cases g : M p with
    | none => simp only [rcv, g] at hk; cases hk
    | some o => cases o <;> (simp only [rcv, g] at hk; cases hk)
  | _ => cases hk
theorem m_strIndex : Mt3 ca X "str.index" (fun x ds M Q => rcv x M = some .str ∧ wpMth .index x ds M Q) := mt3_of mt_sindex fun H M x a ds vs Q r hx hd ⟨hk, h⟩ => by
  cases x with
  | str z =>
    match ds, h with
    | [.str y], h =>
      obtain ⟨i, rest, ho, q⟩ := h
      obtain ⟨v, rfl, rv⟩ := hd.one
      exact ⟨z, y, i, rest, hx, by rw [show v = .str y from rv], ho, qv_int r q⟩
    | [], h => exact h.elim
    | _ :: _ :: _, h => simp only [wpMth] at h
  | ref p =>
    exfalso
    cases g : M p with
    | none => simp only [rcv, g] at hk; cases hk
    | some o => cases o <;> (simp only [rcv, g] at hk; cases hk)
  | _ => cases hk
end
end L3
end
section
set_option autoImplicit false
set_option linter.all false
set_option maxRecDepth 100000
/-! L3: an own exception class's __init__ -/
namespace L3
open PySem L2 PyProof.Rows
open PySem.W (Frag)

theorem bindArgs_plain {fd : FuncData} {us : List Value} {ns : List Str} (h1 : fd.params.posonlyargs = []) (h2 : fd.params.args.map (·.arg) = ns) (h3 : fd.params.vararg = none) (h4 : fd.params.kwonlyargs = []) (h5 : fd.params.kwarg = none)
    (h6 : fd.defaults = .none) (hl : us.length = ns.length) (nd : ns.Nodup) : bindArgs fd ⟨us, []⟩ = pure (ns.zip us) := by
  have look : ∀ (ns : List Str) (us : List Value), us.length = ns.length → ns.Nodup → ∀ (pre : List (Str × Value)), (∀ p ∈ pre, p.1 ∉ ns) → ns.filterMap (fun n => ((pre ++ ns.zip us).lookup n).map (n, ·)) = ns.zip us := by
    intro ns
    induction ns with
    | nil => intro us _ _ pre _; rfl
    | cons n ns ih =>
      intro us hl nd pre hp
      cases us with
      | nil => cases hl
      | cons u us =>
        have hn : pre.lookup n = none := by
          cases e : pre.lookup n with
          | none => rfl
          | some v => exact absurd List.mem_cons_self (hp _ (PySem.mem_of_lookup e))
        have e1 : (pre ++ (n :: ns).zip (u :: us)).lookup n = some u := by
          rw [List.lookup_append, hn]
          simp
        rw [List.filterMap_cons, e1]
        have e2 := ih us (by simpa using hl) (List.nodup_cons.mp nd).2 (pre ++ [(n, u)]) (fun p hp2 hm => by
          rcases List.mem_append.mp hp2 with z | z
          · exact hp p z (List.mem_cons_of_mem _ hm)
          · rw [List.mem_singleton] at z
            subst z
            exact (List.nodup_cons.mp nd).1 hm)
        show (n, u) :: _ = (n, u) :: _
        congr 1
        rw [List.append_assoc] at e2
        exact e2
  have some_ : ∀ n ∈ ns, ((ns.zip us).lookup n).isNone = false := by
    have key : ∀ (ns : List Str) (us : List Value), us.length = ns.length → ∀ n ∈ ns, ((ns.zip us).lookup n).isNone = false := by
      intro ns
      induction ns with
      | nil => intro us _ n h; cases h
      | cons m ns ih =>
        intro us hl n h
        cases us with
        | nil => cases hl
        | cons u us =>
          show (List.lookup n ((m, u) :: ns.zip us)).isNone = false
          rw [List.lookup_cons]
          cases q : n == m with
          | true => rfl
          | false => 
            rcases List.mem_cons.mp h with z | z
            · subst z; simp at q
            · exact ih us (by simpa using hl) n z
    exact key ns us hl
  have lk := look ns us hl nd [] (fun _ h => nomatch h)
  obtain ⟨n, q, ⟨po, as, va, kwo, kwd, kwa, df⟩, b, sc, g, cl, dV, kV, doc, pm, an, cd, ct, bu⟩ := fd
  dsimp only at h1 h2 h3 h4 h5 h6
  subst h1 h2 h3 h4 h5 h6
  have g1 : ¬ (us.length > (as.map (·.arg)).length) := by omega
  have g2 : (List.map (·.arg) as).filter (fun n => (((List.map (·.arg) as).zip us).lookup n).isNone) = [] := by
    refine List.filter_eq_nil_iff.mpr fun n hn => ?_
    rw [some_ n hn]
    decide
  unfold bindArgs
  simp only [List.map_nil, List.nil_append, List.append_nil, List.forIn_nil, pure_bind, seqItems?, notAStandIn, Option.getD_none, List.length_nil, Nat.zero_sub, Nat.sub_zero, List.drop_nil, List.take_length, g2, List.isEmpty_nil, Bool.not_true, Bool.false_eq_true, if_false, Option.isNone_none, Bool.and_true, decide_eq_true_eq, if_neg g1, List.zip_nil_right]
  exact congrArg pure lk
/-! ### the message -/
/-- a value that a message tells -/
def FmV (u : Value) : Prop := (∃ y t, u = .str y t ∧ y.length ≤ 1000) ∨ ∃ i t, u = .int i t ∧ i.natAbs < 2 ^ 64
theorem FmV.of {d : D} {v : V} {u : Value} {C : Ct} {H : Hp} (h : d.fmt) (rd : RD C H d v) (r : RelV v u) : FmV u := by
  cases d with
  | int i =>
    have e : v = .int i := rd
    subst e
    obtain ⟨t, rfl⟩ := r
    exact .inr ⟨i, t, rfl, h⟩
  | str x =>
    have e : v = .str x := rd
    subst e
    obtain ⟨t, rfl⟩ := r
    exact .inl ⟨x, t, rfl, h⟩
  | _ => exact h.elim
def msgPart (ps : List Str) : Expr → Bool
  | .Constant (.str x) _ _ => decide (x.length ≤ 1000)
  | .FormattedValue (.Name p _) (-1) none _ => ps.contains p
  | _ => false
def msgOk (ps : List Str) : Expr → Bool
  | .JoinedStr (v1 :: v2 :: r) _ => (v1 :: v2 :: r).all (msgPart ps) && decide (r.length ≤ 10)
  | .Name p _ => ps.contains p
  | _ => false
section
variable {prog : Program} {w : World} {A : Around} {E : Value → Shared → Prop} {s : Shared} {env : Env} {ps : List Str} {m : Str → Option Value}
/-- the parameters' values stand in the frame -/
structure PsIn (env : Env) (ps : List Str) (m : Str → Option Value) : Prop where
  kind : env.scope.kind = .function
  loc : ∀ p ∈ ps, env.kindOf p = some .local ∧ (p == ("__debug__" : Str)) = false ∧ ∃ u, m p = some u ∧ FmV u
theorem name_ev {p : Str} {pos : Pos} {Q : Value → Shared → Prop} (h : PsIn env ps m) (hn : s.heap.Ns env.locals m) (hp : ps.contains p = true) (hq : ∀ u, m p = some u → FmV u → Q u s) : wpAny (model prog w) A (eval (.Name p pos) env) Q E s := by
  have hp : p ∈ ps := by simpa using hp
  obtain ⟨h1, h2, u, h3, h4⟩ := h.loc p hp
  exact wpAny_Name (wpAny_loadName_local h.kind h1 hn h3 (hq u h3 h4)) h2
theorem part_ev {e : Expr} {Q : Value → Shared → Prop} (h : PsIn env ps m) (hn : s.heap.Ns env.locals m) (he : msgPart ps e = true) (hq : ∀ y t tk, y.length ≤ 1921 → Q (.str y t) { s with toks := tk }) : wpAny (model prog w) A (eval e env) Q E s := by
  unfold msgPart at he
  split at he
  · rename_i x _ _
    have hz : x.length ≤ 1000 := of_decide_eq_true he
    refine wpAny_Constant_str ?_
    exact hq x _ _ (by omega)
  · refine wpAny_FormattedValue_plain (name_ev h hn he fun u hu fm => ?_)
    rcases fm with ⟨y, t, rfl, hz⟩ | ⟨i, t, rfl, hz⟩
    · exact wpAny_formatField_str (hq y _ _ (by omega)) (hq y _ _ (by omega)) (by rw [sizeLine_eq]; omega)
    · have hl : i.natAbs.log2 < 1920 := by
        by_cases h0 : i.natAbs = 0
        · rw [h0]; decide
        · exact (Nat.log2_lt h0).mpr (Nat.lt_trans hz (Nat.pow_lt_pow_right (by decide) (by decide)))
      exact wpAny_formatField_int hl (hq _ _ _ (int_text_len_1921 hl))
  · cases he
theorem joins_ev {R : Str → Shared → Prop} (h : PsIn env ps m) : ∀ (es : List Expr) (acc : Str) (s : Shared), s.heap.Ns env.locals m → es.all (msgPart ps) = true → acc.length + 1921 * es.length ≤ sizeLine → (∀ out tk, out.length ≤ sizeLine → R out { s with toks := tk }) → Joins (model prog w) A E (evalEach es env) acc R s
  | [], acc, s, hn, _, hz, hq => by
    have e0 : evalEach [] env = [] := by first | rfl | simp [evalEach]
    rw [e0]
    exact hq acc _ (by simpa using hz)
  | e :: es, acc, s, hn, he, hz, hq => by
    have e0 : evalEach (e :: es) env = eval e env :: evalEach es env := by first | rfl | simp [evalEach]
    rw [e0]
    obtain ⟨he1, he2⟩ := Bool.and_eq_true_iff.mp (show (msgPart ps e && es.all (msgPart ps)) = true from he)
    rw [List.length_cons] at hz
    refine part_ev h hn he1 fun y t tk hy => ⟨y, t, rfl, ?_, joins_ev h es (acc ++ y) { s with toks := tk } hn he2 ?_ fun out tk2 ho => hq out tk2 ho⟩
    · have e1 : (acc ++ y).length = acc.length + y.length := by first | rfl | simp | exact Str.length_append ..
      omega
    · have e1 : (acc ++ y).length = acc.length + y.length := by first | rfl | simp | exact Str.length_append ..
      omega
theorem msg_ev {e : Expr} {Q : Value → Shared → Prop} (h : PsIn env ps m) (hn : s.heap.Ns env.locals m) (he : msgOk ps e = true) (hq : ∀ u tk, Q u { s with toks := tk }) : wpAny (model prog w) A (eval e env) Q E s := by
  unfold msgOk at he
  split at he
  · obtain ⟨h1, h2⟩ := Bool.and_eq_true_iff.mp he
    have h2 := of_decide_eq_true h2
    refine wpAny_JoinedStr (joins_ev h _ Str.empty s hn h1 ?_ fun out tk ho => ⟨ho, hq _ _⟩)
    rw [List.length_cons, List.length_cons, sizeLine_eq]
    have : (Str.empty).length = 0 := rfl
    omega
  · exact name_ev h hn he fun u _ _ => hq u s.toks
  · cases he
end
/-! ### ValueError.__init__ by super() -/
section
open PySem.W PySem.Calls
variable {prog : Program} {w : World} {A : Around} {E : Value → Shared → Prop} {h : Heap} {g : Array GenState} {d : Drawn} {t : Nat} {os : OsState}
variable {nm q : Str} {C N : Addr} {bs bm : List Value} {hdct : Bool} {sn : List Str} {sub : List Value} {ab : Bool} {col : Option Bool} {dd : Option Addr} {k0 k1 k2 k3 k5 : Option Value}
abbrev mwV (x : Addr) : Obj := kxs_mw "ValueError.__init__" x
theorem call_mw {u e t0 : Addr} {rest : List Value} {Q : Value → Shared → Prop}
    (hC : h.get? C = some (excClassObj nm q C N bs bm hdct sn sub ab col dd k0 k1 k2 k3 k5 "ValueError.__new__")) (he : h.get? e = some (HandSPX.excO C t0)) (hu : h.get? u = some (mwV e)) (hrest : rest.length ≤ sizeLine)
    (hq : ∀ h' t1, (∀ b o, b ≠ e → h.get? b = some o → h'.get? b = some o) → h'.get? e = some (HandSPX.excO C t1) → Q .none ⟨h', g, d, t, os⟩) :
    wpAny (model prog w) A (call (.ref u) rest) Q E ⟨h, g, d, t, os⟩ := by
  refine wpAny_call (codeAny_of_tree ?_)
  show wpAny _ A.in1 (callAny (.ref u) ⟨rest, []⟩) _ _ _
  simp only [callAny]
  refine wpAny_bind (wpAny_load hu ?_)
  simp only [mwV, kxs_mw, show (Value.type "method-wrapper" == Value.type "method" || Value.type "method-wrapper" == Value.type "builtin_function_or_method" || Value.type "method-wrapper" == Value.type "method-wrapper") = true by decide, if_true]
  refine W.KFB.if_so (by decide) ?_
  refine wpAny_bind (ESX.check_bound F.excBase_ValueError hC he rfl ?_)
  refine wpAny_bind (wpAny_pure (wpAny_pure ?_))
  refine ⟨Code.quiet_builtin _ (by decide +kernel), codeAny_builtin F.excBase_ValueError.initEntry ?_⟩
  rw [Around.under_plainId F.excBase_ValueError.init.plain _]
  wp_walk
  refine hq _ h.objs.size (fun b o hb ho => ?_) ?_
  · rw [Heap.get?_update_other _ _ (Ne.symm hb)]
    exact Heap.get?_push_of_some _ ho
  · rw [Heap.get?_update_self _ (Heap.get?_push_of_some _ he) rfl]
    rfl
end
/-! ### super().__init__(..) -/
section
open PySem.W PySem.Calls
variable {prog : Program} {w : World} {A : Around} {E : Value → Shared → Prop} {s : Shared} {K : Frag} {C f x t0 : Addr} {env : Env} {m mg mb : Str → Option Value} {body : List Stmt}
/-- what super() asks of the def's frame -/
structure SupIn (prog : Program) (K : Frag) (C f : Addr) (env : Env) : Prop where
  kind : env.scope.kind = .function
  ks : env.kindOf "super" = some .globalImplicit
  kc : env.kindOf "__class__" = some .free
  kself : env.kindOf "self" = some .local
  fu : env.func = some f
  fd : ∃ oc od fd osl ar, K.lookup f = some ⟨oc, od, .func fd, osl⟩ ∧ (fd.params.posonlyargs ++ fd.params.args).head? = some ar ∧ ar.arg = "self"
  code : ∃ cda ccl cdd vs ccs file tf, env.code = .ref cda ∧ K.lookup cda = some ⟨ccl, cdd, .fields vs, ccs⟩ ∧ vs[2]? = some (.str file tf) ∧ ((prog.main.file : Str) == file) = true
  cell : ∃ cc cl cld csl, env.cells.lookup ("__class__" : Str) = some cc ∧ K.lookup cc = some ⟨cl, cld, .cell (some (.ref C)), csl⟩
  top : (prog.main.scope.names.lookup ("super" : Str)).isSome = false
  glob : env.globals = mainGlobals
  blt : env.builtins = builtinsNs
theorem super_ev {cd : ClassData} {p0 p1 : Pos} {whole : Sem Value} {Q : Value → Shared → Prop} (S : SupIn prog K C f env) (X : K.In s.heap) (hcd : clsIn K C = some cd) (hsub : mroIn K C (.ref C) = some true) (hx : s.heap.get? x = some (HandSPX.excO C t0)) (hn : s.heap.Ns env.locals m) (hm : m "self" = some (.ref x))
    (hmg : s.heap.Ns mainGlobals mg) (hms : mg "super" = none) (hb : s.heap.Ns builtinsNs mb) (hbs : mb "super" = some (.type "super"))
    (h : ∀ so h', (∀ b o, s.heap.get? b = some o → h'.get? b = some o) → s.heap.objs.size ≤ so → h'.get? so = some (ks_superObj C x C) → Q (.ref so) { s with heap := h' }) :
    _root_.PySem.wpAt (model prog w) A (.func body env) (attributeBase (.Call (.Name "super" p0) [] [] p1) "__init__" env whole) Q E s := by
  obtain ⟨oc, od, fd, osl, ar, f1, f2, f3⟩ := S.fd
  obtain ⟨cda, ccl, cdd, vs, ccs, file, tf, c1, c2, c3, c4⟩ := S.code
  obtain ⟨cc, cl, cld, csl, e1, e2⟩ := S.cell
  obtain ⟨hh, g, d, t, os⟩ := s
  obtain ⟨oD, hD1, hD2⟩ : ∃ oD, hh.get? C = some oD ∧ oD.data = .cls cd := by
    unfold clsIn at hcd
    split at hcd
    · rename_i c d cd' sl ho
      cases hcd
      exact ⟨_, X _ _ ho, rfl⟩
    · cases hcd
  refine ks_wpAt_super_base (env := env) S.ks S.kc (by decide) S.fu (X _ _ f1) rfl f2 c1 (X _ _ c2) rfl c3 c4 S.top ?_
  refine ks_loadName_global S.kind S.ks (loadGlobal_builtin (mg := mg) (mb := mb) (by rw [S.glob]; exact hmg) hms (by rw [S.blt]; exact hb) hbs ⟨rfl, ?_⟩)
  refine wpAny_loadName_free S.kind S.kc e1 ⟨_, X _ _ e2, rfl⟩ ?_
  rw [f3]
  refine wpAny_loadName_local S.kind S.kself hn hm ?_
  refine ks_wpAny_isType_cls hD1 hD2 ⟨rfl, ?_⟩
  refine ks_wpAny_call_super hD1 hD2 hx rfl (fun c e => nomatch e) (looks_mroIn X hsub) (fun h' e k => ?_)
  exact h hh.objs.size h' k (Nat.le_refl _) e
/-- the statement -/
theorem super_st {nm q : Str} {N : Addr} {bs bm : List Value} {hdct : Bool} {sn : List Str} {sub : List Value} {ab : Bool} {col : Option Bool} {dd : Option Addr} {k0 k1 k2 k3 k5 : Option Value} {cd : ClassData} {p0 p1 ap cp ep : Pos} {ms : Expr} {Q : Flow → Shared → Prop} {ps : List Str}
    (S : SupIn prog K C f env) (X : K.In s.heap) (hC : K.lookup C = some (excClassObj nm q C N bs bm hdct sn sub ab col dd k0 k1 k2 k3 k5 "ValueError.__new__")) (hcd : clsIn K C = some cd) (hsub : mroIn K C (.ref C) = some true) (hx : s.heap.get? x = some (HandSPX.excO C t0)) (hnx : K.lookup x = none)
    (hn : s.heap.Ns env.locals m) (hm : m "self" = some (.ref x)) (hxl : x ≠ env.locals)
    (hmg : s.heap.Ns mainGlobals mg) (hms : mg "super" = none) (hb : s.heap.Ns builtinsNs mb) (hbs : mb "super" = some (.type "super")) (ho : nsIn K cStatics "thirdparty.any" = some none)
    (hal : ks_superIn K C C "__init__" = some (some (.builtin "ValueError.__init__"))) (hB : subIn K (.ref C) (.type "ValueError") = some true) (P : PsIn env ps m) (hmo : msgOk ps ms = true) (hl : (ap.endLine == cp.line) = true)
    (h : ∀ h' tk t1, (∀ b o, b ≠ x → s.heap.get? b = some o → h'.get? b = some o) → h'.get? x = some (HandSPX.excO C t1) → Q .next { s with heap := h', toks := tk }) :
    _root_.PySem.wpAt (model prog w) A (.func body env) (exec (.Expr (.Call (.Attribute (.Call (.Name "super" p0) [] [] p1) "__init__" ap) [ms] [] cp) ep) env) Q E s := by
  have hst : starEach [ms] env = [(false, eval ms env)] := by
    unfold msgOk at hmo
    split at hmo
    · rfl
    · rfl
    · cases hmo
  refine ks_wpAt_Expr_any (ks_wpAt_MethodCall (pl := plainOf (.Call (.Name "super" p0) [] [] p1) env) (super_ev S X hcd hsub hx hn hm hmg hms hb hbs fun so h1 k1 hso1 hso => ?_) ?_) (by simp [interactive, S.kind]) (by rfl)
  · have X1 : K.In h1 := X.keeps k1
    have hx1 := k1 _ _ hx
    have I1 : InstAt h1 x (HandSPX.excO C t0) C none := ⟨hx1, rfl, rfl, trivial⟩
    obtain ⟨hh, g, d, t, os⟩ := s
    have hal' : alongIn K "__init__" ((cd.mro.dropWhile (· != .ref C)).drop 1) = some (some (.builtin "ValueError.__init__")) := by
      unfold ks_superIn at hal
      rw [hcd] at hal
      exact hal
    refine kxs_getMethod kxs_ValueError hso (looks_opaque X1 ho) (l₀ := cd.mro) (fun A Q E s k q => wpAny_bind ((looks_clsIn X1 hcd) A _ E s k (wpAny_pure q))) rfl X1 hal' (I1.type.andThen (looks_subIn X1 hB)) (ks_ne X1 I1 hcd) (by decide) ?_
    have kp : ∀ b o, h1.get? b = some o → (h1.push (mwV x)).get? b = some o := fun b o e => Heap.get?_push_of_some _ e
    have hmw : (h1.push (mwV x)).get? h1.objs.size = some (mwV x) := Heap.get?_push_at rfl rfl
    rw [hst]
    refine kxs_callWith (i := "ValueError.__init__") (x := x) rfl (evalArgs_plain ?_)
    refine Calls.spliced_cons (msg_ev P (hn.at ?_) hmo fun u tk => Calls.spliced_nil ⟨hmw, ?_⟩)
    · exact fun o e => kp _ _ (k1 _ _ e)
    · refine call_mw (X1.keeps kp _ _ hC) (kp _ _ hx1) hmw (by rw [sizeLine_eq]; exact Nat.le_of_ble_eq_true rfl) fun h' t1 k2 hx2 => ?_
      exact h h' tk t1 (fun b o hb e => k2 b o hb (kp _ _ (k1 _ _ e))) hx2
  · rw [arm_eval_Call]
    congr 1
    funext ov
    congr 1
    funext _
    refine mcall_line ?_ hl
    unfold methodCallForm
    rw [hst]
    rfl
end
/-! ### self.f = f -/
/-- the fields' statements: each is put from the parameter of its name -/
def asgOk : List Str → List Stmt → Bool
  | [], [] => true
  | f :: fs, .Assign [.Attribute (.Name o _) g _] (.Name p _) _ :: r => o == ("self" : Str) && (g == f && (p == f && asgOk fs r))
  | _, _ => false
theorem asgOk_cons {f : Str} {fs : List Str} {body : List Stmt} (h : asgOk (f :: fs) body = true) : ∃ p1 p2 p3 p4 r, body = .Assign [.Attribute (.Name "self" p1) f p2] (.Name f p3) p4 :: r ∧ asgOk fs r = true := by
  unfold asgOk at h
  split at h
  · exact absurd ‹f :: fs = []› (by simp)
  · rename_i f' fs' o p1 g p2 p p3 p4 r e1
    cases e1
    obtain ⟨h1, q1⟩ := Bool.and_eq_true_iff.mp h
    obtain ⟨h2, q2⟩ := Bool.and_eq_true_iff.mp q1
    obtain ⟨h3, q3⟩ := Bool.and_eq_true_iff.mp q2
    clear h q1 q2
    have h1 := eq_of_beq h1
    have h2 := eq_of_beq h2
    have h3 := eq_of_beq h3
    subst h1 h2 h3
    exact ⟨_, _, _, _, _, rfl, q3⟩
  · cases h
theorem asgOk_nil {body : List Stmt} (h : asgOk [] body = true) : body = [] := by
  cases body with
  | nil => rfl
  | cons a l => simp [asgOk] at h
section
open PySem.W PySem.Calls
variable {prog : Program} {w : World} {A : Around} {E : Value → Shared → Prop} {K : Frag} {C x t1 : Addr} {env : Env} {m : Str → Option Value} {ps : List Str}
abbrev excD (C dx t : Addr) : Obj := { cls := .ref C, dict := some dx, data := .fields #[.ref t, .none, .none, .none, .bool false, .none] }
theorem in_but {h h' : Heap} {y : Addr} (X : K.In h) (hy : K.lookup y = none) (k : ∀ b o, b ≠ y → h.get? b = some o → h'.get? b = some o) : K.In h' := fun a o e => k a o (fun z => by rw [z, hy] at e; cases e) (X a o e)
theorem ns_but {h h' : Heap} {L y : Addr} (n : h.Ns L m) (hy : L ≠ y) (k : ∀ b o, b ≠ y → h.get? b = some o → h'.get? b = some o) : h'.Ns L m := n.at fun o e => k _ _ hy e
theorem asg_vals {s : Shared} {f : Str} {p1 p2 p3 p4 : Pos} {Q : Flow → Shared → Prop} (P : PsIn env ps m) (hks : env.kindOf "self" = some .local) (hm : m "self" = some (.ref x)) (hn : s.heap.Ns env.locals m) (hf : f ∈ ps)
    (h : ∀ u, m f = some u → wpAny (model prog w) A (setAttr (.ref x) f u) (fun _ s' => Q .next s') E s) : wpAny (model prog w) A (exec (.Assign [.Attribute (.Name "self" p1) f p2] (.Name f p3) p4) env) Q E s := by
  refine plainObj_wpAny_Assign_Attribute (name_ev P hn (by simpa using hf) fun u hu _ => ?_) (by rfl)
  exact wpAny_Name (wpAny_loadName_local P.kind hks hn hm (h u hu)) (by decide)
theorem asgs_rest {dx : Addr} (T : OexC K C) (P : PsIn env ps m) (hks : env.kindOf "self" = some .local) (hm : m "self" = some (.ref x)) (hdx : dx ≠ x) (hL : env.locals ≠ dx) (hK : K.lookup dx = none) :
    ∀ (fs : List Str) (body : List Stmt) (s : Shared) (mA : Str → Option Value) (nl : List Str) (Q : Flow → Shared → Prop), asgOk fs body = true → (∀ f ∈ fs, f ∈ ps ∧ findIn K (.ref C) f = some none) → K.In s.heap → s.heap.get? x = some (excD C dx t1) → s.heap.Ns1 dx mA → Within mA nl → nl.length + fs.length ≤ 900 → s.heap.Ns env.locals m →
      (∀ h' tk mA', (∀ b o, b ≠ dx → s.heap.get? b = some o → h'.get? b = some o) → h'.Ns1 dx mA' → (∀ y, mA' y = if y ∈ fs then m y else mA y) → Q .next { s with heap := h', toks := tk }) →
      wpAny (model prog w) A (execs body env) Q E s
  | [], body, s, mA, nl, Q, ha, _, X, hx, hns, hw, hz, hn, hq => by
    rw [asgOk_nil ha]
    exact wpAny_execs_nil (hq s.heap s.toks mA (fun _ _ _ e => e) hns fun y => by simp)
  | f :: fs, body, s, mA, nl, Q, ha, hfs, X, hx, hns, hw, hz, hn, hq => by
    obtain ⟨p1, p2, p3, p4, r, rfl, ha'⟩ := asgOk_cons ha
    obtain ⟨g1, g2⟩ := hfs f List.mem_cons_self
    obtain ⟨nm, q, N, bs, bm, sn, sub, ab, col, dd, k0, k1, k2, k3, k5, hC, hbm⟩ := T.cls
    have hcl : PySem.W.clsIn K C = some { name := nm, bases := bs, mro := .ref C :: bm, ns := N, qualname := q, hasDict := true, slotNames := sn, subclasses := sub, abstract := ab, collection := col, hasDel := false } := by unfold PySem.W.clsIn; rw [hC] <;> rfl
    refine wpAny_execs_cons (asg_vals P hks hm hn g1 fun u hu => ?_)
    obtain ⟨oD, _, _, hoD, _, _⟩ := hns.count hw
    rw [List.length_cons] at hz
    obtain ⟨hh, g, d, t, os⟩ := s
    refine PySem.W.set_plain X (ox := excD C dx t1) (od := some oD) ⟨hx, rfl, rfl, hoD⟩ T.sa ?_
    refine PySem.OEX.osa_old X hx hns hw (by omega) hcl (show PySem.HandSPX.refsVE (.ref C :: bm) = true from hbm) rfl g2 (fun h' tk' k hn' => ?_)
    refine asgs_rest T P hks hm hdx hL hK fs r ⟨h', g, d, tk', os⟩ _ (f :: nl) Q ha' (fun f' hf' => hfs f' (List.mem_cons_of_mem _ hf')) (in_but X hK k) (k _ _ (Ne.symm hdx) hx) hn' (Within.cons f u hw) (by rw [List.length_cons]; omega) (ns_but hn hL k) fun h2 tk2 mA2 k2 hns2 e2 => ?_
    refine hq h2 tk2 mA2 (fun b o hb e => k2 b o hb (k b o hb e)) hns2 fun y => ?_
    rw [e2 y]
    by_cases h1 : y ∈ fs
    · rw [if_pos h1, if_pos (List.mem_cons_of_mem _ h1)]
    · rw [if_neg h1]
      by_cases h3 : y = f
      · subst h3
        rw [if_pos rfl, if_pos List.mem_cons_self, hu]
      · rw [if_neg h3, if_neg]
        intro z
        rcases List.mem_cons.mp z with z | z
        · exact h3 z
        · exact h1 z
/-- all of them, on an exception that has no dict yet -/
theorem asgs_all {f0 : Str} {fs0 : List Str} {body : List Stmt} {s : Shared} {Q : Flow → Shared → Prop} (T : OexC K C) (P : PsIn env ps m) (hks : env.kindOf "self" = some .local) (hm : m "self" = some (.ref x)) (hL : env.locals ≠ x) (hxK : K.lookup x = none)
    (ha : asgOk (f0 :: fs0) body = true) (hfs : ∀ f ∈ f0 :: fs0, f ∈ ps ∧ findIn K (.ref C) f = some none) (X : K.In s.heap) (hx : s.heap.get? x = some (HandSPX.excO C t1)) (hz : fs0.length ≤ 800) (hn : s.heap.Ns env.locals m)
    (hq : ∀ h' tk dx mA', (∀ b o, b ≠ x → s.heap.get? b = some o → h'.get? b = some o) → s.heap.objs.size ≤ dx → dx ≠ x → h'.get? x = some (excD C dx t1) → h'.Ns1 dx mA' → (∀ y, mA' y = if y ∈ f0 :: fs0 then m y else none) → Q .next { s with heap := h', toks := tk }) :
    wpAny (model prog w) A (execs body env) Q E s := by
  obtain ⟨p1, p2, p3, p4, r, rfl, ha'⟩ := asgOk_cons ha
  obtain ⟨g1, g2⟩ := hfs f0 List.mem_cons_self
  obtain ⟨nm, q, N, bs, bm, sn, sub, ab, col, dd, k0, k1, k2, k3, k5, hC, hbm⟩ := T.cls
  have hcl : PySem.W.clsIn K C = some { name := nm, bases := bs, mro := .ref C :: bm, ns := N, qualname := q, hasDict := true, slotNames := sn, subclasses := sub, abstract := ab, collection := col, hasDel := false } := by unfold PySem.W.clsIn; rw [hC] <;> rfl
  refine wpAny_execs_cons (asg_vals P hks hm hn g1 fun u hu => ?_)
  obtain ⟨hh, g, d, t, os⟩ := s
  refine PySem.W.set_plain X (ox := HandSPX.excO C t1) (od := none) ⟨hx, rfl, rfl, trivial⟩ T.sa ?_
  refine PySem.HandSPX.exc_osa X hx hcl (show PySem.HandSPX.refsVE (.ref C :: bm) = true from hbm) rfl g2 (fun h' tk' dx k dn dne hx' hn' => ?_)
  have nd : ∀ {b : Addr} {o : Obj}, hh.get? b = some o → b ≠ dx := fun {b o} e => Nat.ne_of_lt (Nat.lt_of_lt_of_le (Heap.lt_size e) dn)
  have hKd : K.lookup dx = none := by
    cases e : K.lookup dx with
    | none => rfl
    | some o => exact absurd rfl (nd (X _ _ e))
  have hLd : env.locals ≠ dx := by
    obtain ⟨oL, es, ep, hL', _⟩ := hn
    exact nd hL'
  refine asgs_rest T P hks hm dne hLd hKd fs0 r ⟨h', g, d, tk', os⟩ _ [f0] Q ha' (fun f' hf' => hfs f' (List.mem_cons_of_mem _ hf')) (in_but X hxK k) hx' hn' (Within.cons f0 u (fun y hy => absurd rfl hy)) (by simp only [List.length_cons, List.length_nil]; omega) (ns_but hn hL k) fun h2 tk2 mA2 k2 hns2 e2 => ?_
  refine hq h2 tk2 dx mA2 (fun b o hb e => k2 b o (nd e) (k b o hb e)) dn dne (k2 _ _ (Ne.symm dne) hx') hns2 fun y => ?_
  rw [e2 y]
  by_cases h1 : y ∈ fs0
  · rw [if_pos h1, if_pos (List.mem_cons_of_mem _ h1)]
  · rw [if_neg h1]
    by_cases h3 : y = f0
    · subst h3
      rw [if_pos rfl, if_pos List.mem_cons_self, hu]
    · rw [if_neg h3, if_neg]
      intro z
      rcases List.mem_cons.mp z with z | z
      · exact h3 z
      · exact h1 z
end
/-! ### the whole -/
def initB (fs : List Str) : List Stmt → Bool
  | .Expr (.Call (.Attribute (.Call (.Name s _) [] [] _) i ap) [m] [] cp) _ :: r => s == ("super" : Str) && (i == ("__init__" : Str) && ((ap.endLine == cp.line) && (msgOk fs m && asgOk fs r)))
  | _ => false
theorem initB_ok {fs : List Str} {body : List Stmt} (h : initB fs body = true) : ∃ p0 p1 ap ms cp ep r, body = .Expr (.Call (.Attribute (.Call (.Name "super" p0) [] [] p1) "__init__" ap) [ms] [] cp) ep :: r ∧ (ap.endLine == cp.line) = true ∧ msgOk fs ms = true ∧ asgOk fs r = true := by
  unfold initB at h
  split at h
  · rename_i s p0 p1 i ap m cp ep r
    obtain ⟨h1, q1⟩ := Bool.and_eq_true_iff.mp h
    obtain ⟨h2, q2⟩ := Bool.and_eq_true_iff.mp q1
    obtain ⟨h3, q3⟩ := Bool.and_eq_true_iff.mp q2
    obtain ⟨h4, h5⟩ := Bool.and_eq_true_iff.mp q3
    clear h q1 q2 q3
    have h1 := eq_of_beq h1
    have h2 := eq_of_beq h2
    subst h1 h2
    exact ⟨_, _, _, _, _, _, _, rfl, h3, h4, h5⟩
  · cases h
/-- what the written part says of the function -/
structure FuOk (P : Program) (K : Frag) (C : Addr) (fs : List Str) (fd : FuncData) : Prop where
  a1 : fd.params.posonlyargs = []
  a2 : fd.params.args.map (·.arg) = ("self" : Str) :: fs
  a3 : fd.params.vararg = none
  a4 : fd.params.kwonlyargs = []
  a5 : fd.params.kwarg = none
  a6 : fd.defaults = .none
  kd : fd.scope.kind = .function
  co : fd.scope.isCoroutine = false
  ge : fd.scope.isGenerator = false
  nc : ∀ x ∈ fd.scope.names, x.2 ≠ .cell
  lo : ∀ p ∈ ("self" : Str) :: fs, fd.scope.names.lookup p = some .local
  su : fd.scope.names.lookup ("super" : Str) = some .globalImplicit
  cl : fd.scope.names.lookup ("__class__" : Str) = some .free
  gl : fd.globals = mainGlobals
  bl : fd.builtins = builtinsNs
  cr : PySem.W.codeIn K fd.code fd.qualname = true
  cd : ∃ cda ccl cdd vs ccs file tf, fd.code = .ref cda ∧ K.lookup cda = some ⟨ccl, cdd, .fields vs, ccs⟩ ∧ vs[2]? = some (.str file tf) ∧ ((P.main.file : Str) == file) = true
  ce : ∃ cc cl cld csl, fd.closure.lookup ("__class__" : Str) = some cc ∧ K.lookup cc = some ⟨cl, cld, .cell (some (.ref C)), csl⟩
structure OwnK (P : Program) (K : Frag) (C : Addr) (fs : List Str) : Prop where
  T : OexC K C
  no : ∀ f ∈ fs, PySem.W.findIn K (.ref C) f = some none
  db : ∀ f ∈ fs, (f == ("__debug__" : Str)) = false
  nd : (("self" : Str) :: fs).Nodup
  ne : ∃ f0 fs0, fs = f0 :: fs0
  sz : fs.length ≤ 20
  me : PySem.W.mroIn K C (.ref C) = some true
  hB : PySem.W.subIn K (.ref C) (.type "ValueError") = some true
  ho : PySem.W.nsIn K cStatics "thirdparty.any" = some none
  sp : PySem.W.nsIn K mainGlobals "super" = some none
  al : PySem.W.ks_superIn K C C "__init__" = some (some (.builtin "ValueError.__init__"))
  top : (P.main.scope.names.lookup ("super" : Str)).isSome = false
  fn : ∃ fI oc od fd osl body, PySem.W.findIn K (.ref C) "__init__" = some (some (.ref fI)) ∧ PySem.W.typeIn K (.ref fI) = some (.type "function") ∧ K.lookup fI = some ⟨oc, od, .func fd, osl⟩ ∧ fd.body = .stmts body ∧ initB fs body = true ∧ FuOk P K C fs fd
section
open PySem.W PySem.Calls
variable {prog : Program} {w : World} {A : Around} {K : Frag} {C x t0 f : Addr} {mg mb : Str → Option Value} {fs : List Str} {s : Shared} {R : Result → Shared → Prop} {us : List Value}
theorem zip_lookup {us : List Value} : ∀ {fs : List Str}, us.length = fs.length → ∀ {p : Str}, p ∈ fs → ∃ u, (fs.zip us).lookup p = some u ∧ u ∈ us := by
  induction us with
  | nil => intro fs hl p hp; cases fs with | nil => cases hp | cons _ _ => cases hl
  | cons u us ih =>
    intro fs hl p hp
    cases fs with
    | nil => cases hp
    | cons g fs =>
      show ∃ v, List.lookup p ((g, u) :: fs.zip us) = some v ∧ _
      rw [List.lookup_cons]
      cases q : p == g with
      | true => exact ⟨u, rfl, List.mem_cons_self⟩
      | false =>
        have hp' : p ∈ fs := (List.mem_cons.mp hp).resolve_left fun z => by subst z; simp at q
        obtain ⟨v, e1, e2⟩ := ih (by simpa using hl) hp'
        exact ⟨v, e1, List.mem_cons_of_mem _ e2⟩
theorem zip_none {us : List Value} {fs : List Str} {p : Str} (hp : p ∉ fs) : (fs.zip us).lookup p = none := by
  cases e : (fs.zip us).lookup p with
  | none => rfl
  | some v => exact absurd (List.of_mem_zip (PySem.mem_of_lookup e)).1 hp
theorem own_init {fI : Addr} {oc : Value} {od : Option Addr} {fd : FuncData} {osl : Array (Option Value)} {body : List Stmt} (O : OwnK prog K C fs) (h3 : K.lookup fI = some ⟨oc, od, .func fd, osl⟩) (h4 : fd.body = .stmts body) (h5 : initB fs body = true) (D : FuOk prog K C fs fd)
    (X : K.In s.heap) (hlim : s.heap.NoLimit) (hmg : s.heap.Ns mainGlobals mg) (hmb : s.heap.Ns builtinsNs mb) (hbs : mb "super" = some (.type "super")) (hx : s.heap.get? x = some (HandSPX.excO C t0)) (hnx : K.lookup x = none) (hroom : A.depth < recursionLimit)
    (hl : us.length = fs.length) (hu : ∀ u ∈ us, FmV u)
    (hq : ∀ h' tk dx t1 mA, (∀ b o, b ≠ x → s.heap.get? b = some o → h'.get? b = some o) → s.heap.objs.size ≤ dx → dx ≠ x → h'.get? x = some (excD C dx t1) → h'.Ns1 dx mA → (∀ y, mA y = (fs.zip us).lookup y) → R (.ok (.ret .none)) { s with heap := h', toks := tk }) :
    codeAny (model prog w) A (.call (.ref fI) ⟨.ref x :: us, []⟩) R s := by
  obtain ⟨nm, q, N, bs, bm, sn, sub, ab, col, dd, k0, k1, k2, k3, k5, hC, hbm⟩ := O.T.cls
  have hcl : PySem.W.clsIn K C = some { name := nm, bases := bs, mro := .ref C :: bm, ns := N, qualname := q, hasDict := true, slotNames := sn, subclasses := sub, abstract := ab, collection := col, hasDel := false } := by unfold PySem.W.clsIn; rw [hC] <;> rfl
  obtain ⟨p0, p1, ap, ms, cp, ep, r, rfl, i1, i2, i3⟩ := initB_ok h5
  obtain ⟨f0, fs0, rfl⟩ := O.ne
  have hb : bindArgs fd ⟨.ref x :: us, []⟩ = pure ((("self" : Str) :: f0 :: fs0).zip (.ref x :: us)) := bindArgs_plain D.a1 D.a2 D.a3 D.a4 D.a5 D.a6 (by simp only [List.length_cons]; simp only [List.length_cons] at hl; omega) O.nd
  refine ks_codeAny_call_defAt (fd := fd) (o := ⟨oc, od, .func fd, osl⟩) (binds := (("self" : Str) :: f0 :: fs0).zip (.ref x :: us)) hroom (X _ _ h3) rfl hlim (codeRec_of X D.cr) h4 (BindsTo.of_eq hb) D.nc (fun y hy => D.lo _ (List.of_mem_zip (show (y.1, y.2) ∈ _ from hy)).1) (fun h₀ hns k₀ => ?_) D.co D.ge D.kd
  have keys : (((("self" : Str) :: f0 :: fs0).zip (Value.ref x :: us)).map (·.1)).Nodup := by
    rw [List.map_fst_zip (by simp only [List.length_cons]; simp only [List.length_cons] at hl; omega)]
    exact O.nd
  have hm0 : ∀ y, ((("self" : Str) :: f0 :: fs0).zip (Value.ref x :: us)).reverse.lookup y = ((("self" : Str) :: f0 :: fs0).zip (Value.ref x :: us)).lookup y := lookup_reverse_of_nodup _ keys
  have hself : ((("self" : Str) :: f0 :: fs0).zip (Value.ref x :: us)).reverse.lookup ("self" : Str) = some (.ref x) := by
    rw [hm0]
    show List.lookup _ ((("self" : Str), Value.ref x) :: _) = _
    rw [List.lookup_cons]
    simp
  have hfld : ∀ y ∈ f0 :: fs0, ((("self" : Str) :: f0 :: fs0).zip (Value.ref x :: us)).reverse.lookup y = ((f0 :: fs0).zip us).lookup y := fun y hy => by
    rw [hm0]
    show List.lookup y ((("self" : Str), Value.ref x) :: (f0 :: fs0).zip us) = _
    rw [List.lookup_cons]
    have : (y == ("self" : Str)) = false := by
      cases q : y == ("self" : Str) with
      | false => rfl
      | true =>
        have e := eq_of_beq q
        subst e
        exact absurd hy (List.nodup_cons.mp O.nd).1
    rw [this]
  have hLx : s.heap.objs.size ≠ x := Nat.ne_of_gt (Heap.lt_size hx)
  generalize hmm : (fun y => ((("self" : Str) :: f0 :: fs0).zip (Value.ref x :: us)).reverse.lookup y) = mm at hns
  have hmself : mm "self" = some (.ref x) := by rw [← hmm]; exact hself
  have hmf : ∀ y ∈ f0 :: fs0, mm y = ((f0 :: fs0).zip us).lookup y := fun y hy => by rw [← hmm]; exact hfld y hy
  have PI : PsIn (callEnv fd s.heap.objs.size fI) (f0 :: fs0) mm := ⟨D.kd, fun p hp => by
    obtain ⟨u, e1, e2⟩ := zip_lookup hl hp
    exact ⟨D.lo p (List.mem_cons_of_mem _ hp), O.db p hp, u, (hmf p hp).trans e1, hu u e2⟩⟩
  have SI : SupIn prog K C fI (callEnv fd s.heap.objs.size fI) := by
    refine ⟨D.kd, D.su, D.cl, D.lo _ List.mem_cons_self, rfl, ?_, D.cd, D.ce, O.top, D.gl, D.bl⟩
    have e := D.a2
    cases ea : fd.params.args with
    | nil => rw [ea] at e; cases e
    | cons a l =>
      rw [ea] at e
      exact ⟨oc, od, fd, osl, a, h3, by rw [D.a1, ea]; rfl, (List.cons.inj e).1⟩
  have X₀ := X.keeps k₀
  refine ks_wpAt_execs_cons (super_st SI X₀ hC hcl O.me (k₀ _ _ hx) hnx hns hmself (Ne.symm hLx) (hmg.at fun o e => k₀ _ _ e) (mg_none_of X hmg O.sp) (hmb.at fun o e => k₀ _ _ e) hbs O.ho O.al O.hB PI i2 i1 fun h₁ tk t1 k₁ hx₁ => ?_)
  refine wpAt_of_wpAny (asgs_all O.T PI (D.lo _ List.mem_cons_self) hmself hLx hnx i3 (fun f hf => ⟨hf, O.no f hf⟩) (in_but X₀ hnx k₁) hx₁ (by have := O.sz; simp only [List.length_cons] at this; omega) (ns_but hns hLx k₁) fun h₂ tk2 dx mA k₂ dn dne hx₂ hns₂ hmA => ?_)
  have dn' : s.heap.objs.size ≤ dx := Nat.le_of_lt (Nat.lt_of_lt_of_le (ns_but hns hLx k₁).lt dn)
  refine hq h₂ tk2 dx t1 mA (fun b o hb e => k₂ b o hb (k₁ b o hb (k₀ b o e))) dn' dne hx₂ hns₂ fun y => ?_
  rw [hmA y]
  by_cases hy : y ∈ f0 :: fs0
  · rw [if_pos hy, hmf y hy]
  · rw [if_neg hy, zip_none hy]
end
end L3
end
section
set_option autoImplicit false
set_option linter.all false
set_option maxRecDepth 100000
/-! L3: exceptions as values; what a context wants of them -/
namespace L3
open PySem L2 PyProof.Rows

/-- what a def promises of an exception that it lets out -/
def XK3 (C : Ct) (H : Hp) (M : Mp) (X : Xp) : XK := fun cls d H' => ∃ M' c ds, RM C H' M' ∧ Stp H M H' M' ∧ XO C H' cls d c ds ∧ X (.exn c ds) M'
/-- what is wanted of an exception within a def -/
def WX3 (ca : Nat → Addr) (X : Cx) (M0 : Mp) (X3 : Xs) : WX := fun cls d σ H => ∃ σ3 M c ds, RL (ct X ca) H σ3 σ ∧ RM (ct X ca) H M ∧ Stp X.H_0 M0 H M ∧ XO (ct X ca) H cls d c ds ∧ X3 (.exn c ds) σ3 M
def TK (ca : Nat → Addr) (X : Cx) (M0 : Mp) (X3 : Xs) : Prop := L2N.Takes X (WX3 ca X M0 X3)
/-- an exception class's field is read -/
structure XfK (K : PySem.W.Frag) (C : Addr) (f : Str) : Prop where
  t : XfC K C
  no : PySem.W.findIn K (.ref C) f = some none
/-- what isinstance tells -/
def IsK (ca : Nat → Addr) (K : PySem.W.Frag) (C : Addr) : HK → Bool → Prop
  | .own c2, b => ExcC K C ∧ PySem.W.kitOne K (.ref C) (.ref (ca c2)) = some b
  | .bin _, _ => False
section
variable {ca : Nat → Addr} {X : Cx} {M0 M : Mp} {pins : List (Addr × Obj)} {σ3 : Lo} {σ : L2.St} {H : Hp} {s : Shared} {X3 X4 : Xs}
theorem tk_false : TK ca X M0 (fun _ _ _ => False) := fun u s' ⟨a, B, sI, pins, σ, H, cls, d, e, I, nb, up, sky, na, os, ag, σ3, M, c, ds, h1, h2, h3, h4, h5⟩ => h5.elim
theorem TK.imp (t : TK ca X M0 X3) (h : ∀ x σ M, X4 x σ M → X3 x σ M) : TK ca X M0 X4 := L2N.Takes.imp t fun c d σ H ⟨σ3, M, c', ds, h1, h2, h3, h4, h5⟩ => ⟨σ3, M, c', ds, h1, h2, h3, h4, h _ _ _ h5⟩
/-- a call's exception is taken -/
theorem tk_call (tk : TK ca X M0 X3) (I : I3 (ct X ca) X M0 pins σ3 M σ H s) {e : Value} {s' : Shared} (h : L2N.CX X.prog X.w X.stack H s (XK3 (ct X ca) H M (xat X3 σ3)) e s') : X.xe e s' :=
  tk e s' (L2N.XE.of_call I.inv (fun cls d H' ⟨M', c, ds, rm, st, xo, q⟩ => ⟨σ3, M', c, ds, I.lo.keep (st.tupK I.hp), rm, I.st.trans st, xo, q⟩) h)
end
/-- a class without an __init__ of its own -/
structure PlainK (K : PySem.W.Frag) (C : Addr) : Prop where
  ex : PySem.W.excIn K C PySem.HandSPX.veTail "ValueError.__new__" = true
  exC : PySem.W.subIn K (.ref C) (.type "BaseException") = some true
  tyC : PySem.W.typeIn K (.ref C) = some (.type "type")
/-- what the written part must say of an exception class -/
structure ExK (P : Program) (K : PySem.W.Frag) (C : Addr) (fs : List Str) : Prop where
  kp : PySem.W.keepIn K (.ref C) = true
  wh : OwnK P K C fs ∨ (fs = [] ∧ PlainK K C)
/-- an exception of the class is made -/
def MkX (ca : Nat → Addr) (X : Cx) (fs : List Str) (c : Nat) : Prop :=
  ∀ (pins : List (Addr × Obj)) (s : Shared) (M0 M : Mp) (σ3 : Lo) (σ : L2.St) (H : Hp) (us : List Value) (vs : List V) (ds : List D) (Q : XK), I3 (ct X ca) X M0 pins σ3 M σ H s → Vals vs us → RDs (ct X ca) H ds vs → ds.length = fs.length → (∀ d ∈ ds, d.fmt) →
    (∀ d H', Stp H M H' M → RM (ct X ca) H' M → XO (ct X ca) H' (.ref (ca c)) d c (exnF fs ds) → Q (.ref (ca c)) d H') → wpAny (model X.prog X.w) X.A (call (.ref (ca c)) us) (L2N.MkP X pins σ Q) X.xe s
theorem exnG_F : ∀ {fs : List Str} {ds : List D}, ds.length = fs.length → (∀ d ∈ ds, d.fmt) → ∀ {f : Str} {e : D}, exnG f (exnF fs ds) = some e → e.fmt ∧ (fs.zip (ds.map D.fv)).lookup f = some e.fv
  | [], [], _, _, f, e, h => by cases h
  | [], _ :: _, hl, _, _, _, _ => by cases hl
  | _ :: _, [], hl, _, _, _, _ => by cases hl
  | g :: fs, d :: ds, hl, hf, f, e, h => by
    have h : (if g = f then some d else exnG f (exnF fs ds)) = some e := h
    show e.fmt ∧ List.lookup f ((g, d.fv) :: fs.zip (ds.map D.fv)) = some e.fv
    by_cases q : g = f
    · rw [if_pos q] at h
      cases h
      subst q
      exact ⟨hf d List.mem_cons_self, by simp [List.lookup]⟩
    · rw [if_neg q] at h
      obtain ⟨h1, h2⟩ := exnG_F (by simpa using hl) (fun d hd => hf d (List.mem_cons_of_mem _ hd)) h
      refine ⟨h1, ?_⟩
      have e1 : (f == g) = false := by
        cases q2 : f == g with
        | false => rfl
        | true => exact absurd (eq_of_beq q2).symm q
      rw [List.lookup_cons, e1]
      exact h2
theorem fv_all {C : Ct} {H : Hp} : ∀ {ds : List D} {vs : List V}, (∀ d ∈ ds, d.fmt) → RDs C H ds vs → vs = ds.map D.fv
  | [], vs, _, h => h
  | d :: ds, vs, hf, h => by
    obtain ⟨x, r, e, h1, h2⟩ := h
    rw [e, rd_fv (hf d List.mem_cons_self) h1, fv_all (fun d hd => hf d (List.mem_cons_of_mem _ hd)) h2]
    rfl
theorem fmv_all {C : Ct} {H : Hp} : ∀ {ds : List D} {vs : List V} {us : List Value}, (∀ d ∈ ds, d.fmt) → RDs C H ds vs → Vals vs us → ∀ u ∈ us, FmV u
  | [], vs, us, _, h, r, u, hu => by
    rw [show vs = [] from h] at r
    cases r
    cases hu
  | d :: ds, vs, us, hf, h, r, u, hu => by
    obtain ⟨x, l, e, h1, h2⟩ := h
    subst e
    cases r with
    | cons r1 r2 =>
      rcases List.mem_cons.mp hu with rfl | hu
      · exact FmV.of (hf d List.mem_cons_self) h1 r1
      · exact fmv_all (fun d hd => hf d (List.mem_cons_of_mem _ hd)) h2 r2 u hu
theorem relO_zip {vs : List V} {us : List Value} (r : Vals vs us) : ∀ (fs : List Str) (f : Str), RelO ((fs.zip vs).lookup f) ((fs.zip us).lookup f) := by
  induction r with
  | nil => intro fs f; cases fs <;> exact trivial
  | @cons v u vs us rv r ih =>
    intro fs f
    cases fs with
    | nil => exact trivial
    | cons g fs =>
      show RelO (List.lookup f ((g, v) :: fs.zip vs)) (List.lookup f ((g, u) :: fs.zip us))
      rw [List.lookup_cons, List.lookup_cons]
      cases f == g with
      | true => exact rv
      | false => exact ih fs f
theorem mkx_of {ca : Nat → Addr} {X : Cx} {fs : List Str} {c k : Nat} (E : ExK X.prog X.K (ca c) fs) (hr : Room (k + 2) X.A) : MkX ca X fs c := by
  intro pins s M0 M σ3 σ H us vs ds Q I r rd hl hf hq
  have kin := I.inv.kIn
  rcases E.wh with O | ⟨rfl, Pl⟩
  · obtain ⟨nm, q, N, bs, bm, sn, sub, ab, col, dd, k0, k1, k2, k3, k5, hC, hbm⟩ := O.T.cls
    obtain ⟨fI, oc, od, fd, osl, body, f1, f2, f3, f4, f5, D⟩ := O.fn
    have hus : us.length = fs.length := by rw [← r.length, ← rd.length]; exact hl
    have hfm := fmv_all hf rd r
    have ev := fv_all hf rd
    have hsz : us.length ≤ sizeLine := by
      have := O.sz
      rw [sizeLine_eq]
      omega
    have J0 := I.inv
    obtain ⟨hp, g, dr, tk, os⟩ := s
    have hss : hp.objs.size ≤ hp.objs.size + 1 := Nat.le_succ _
    have kk : ∀ b o, hp.get? b = some o → ((hp.push (PySem.W.kdv_tup us)).push (PySem.HandSPX.excO (ca c) hp.objs.size)).get? b = some o := fun b o e => Heap.get?_push_of_some _ (Heap.get?_push_of_some _ e)
    have hget : ((hp.push (PySem.W.kdv_tup us)).push (PySem.HandSPX.excO (ca c) hp.objs.size)).get? (hp.objs.size + 1) = some (PySem.HandSPX.excO (ca c) hp.objs.size) := by heap_get
    have hnx : X.K.lookup (hp.objs.size + 1) = none := by
      cases e : X.K.lookup (hp.objs.size + 1) with
      | none => rfl
      | some o =>
        have z : hp.get? (hp.objs.size + 1) = some o := kin _ _ e
        exact absurd (Nat.lt_of_succ_lt (Heap.lt_size z)) (Nat.lt_irrefl _)
    obtain ⟨mb, b1, b2⟩ := J0.ok.mod.blt
    have bk := J0.bk
    refine wpAny_call (PySem.HandSPX.call_own F.excBase_ValueError (fun Y => PySem.HandSPX.refsVE_contains Y bm hbm) (kin _ _ hC) (PySem.W.looks_findIn kin f1) (fun self => PySem.W.bind_fn kin self f2) hsz
      (own_init (s := ⟨(hp.push (PySem.W.kdv_tup us)).push (PySem.HandSPX.excO (ca c) hp.objs.size), g, dr, tk, os⟩) (mg := X.mg) (mb := mb) O f3 f4 f5 D (kin.keeps kk) (J0.nolimit.keeps kk) (J0.ok.mod.glob.at fun o e => kk _ _ (bk _ _ e)) (b1.at fun o e => kk _ _ (bk _ _ e))
        ((b2 _ (by decide)).trans (by decide +kernel)) hget hnx (by have := (hr.make (ca c) us []).dp; omega) hus hfm fun h' tk' dx t1 mA k' dn dne hx' hns hmA => ⟨rfl, ?_⟩))
    show L2N.MkP X pins σ Q (.ref (hp.objs.size + 1)) ⟨h', g, dr, tk', os⟩
    have dn : hp.objs.size + 1 + 1 ≤ dx := by
      first
        | exact dn
        | (simpa only [Heap.size_push] using dn)
        | (have q := dn; rw [Heap.size_push, Heap.size_push] at q; exact q)
    have hnd : H dx = none := J0.hok.fresh (Nat.le_trans (Nat.le_trans (Nat.le_succ _) (Nat.le_succ _)) dn)
    have hna : H (hp.objs.size + 1) = none := J0.hok.fresh hss
    obtain ⟨G', g1, g2⟩ := restrict h' fun b => decide (b ≠ hp.objs.size + 1)
    have gk : ∀ b, b ≠ hp.objs.size + 1 → G'.get? b = h'.get? b := fun b hb => g1 b (decide_eq_true hb)
    have ge : G'.get? (hp.objs.size + 1) = none := g2 (hp.objs.size + 1) (by simp)
    have old : ∀ b o, hp.get? b = some o → G'.get? b = some o := fun b o q => by
      have hb : b ≠ hp.objs.size + 1 := Nat.ne_of_lt (Nat.lt_succ_of_lt (Heap.lt_size q))
      exact (gk b hb).trans (k' b o hb (kk b o q))
    have ob : ObjOk X.prog X.w (upd H dx (.xd (fs.zip vs))) G' dx (.xd (fs.zip vs)) :=
      ⟨mA, hns.at (fun o q => (gk dx dne).trans q), fun f => by rw [hmA f]; exact relO_zip r fs f⟩
    have J : Inv X pins σ (upd H dx (.xd (fs.zip vs))) ⟨G', g, dr, tk', os⟩ := J0.laid (t' := tk') old (Nat.le_trans (Nat.le_trans (Nat.le_succ _) (Nat.le_succ _)) dn) ob
    refine ⟨hp.objs.size + 1, _, _, ⟨G', g, dr, tk', os⟩, _, .ref (ca c), some dx, rfl, J, fun b o q => ?_, ge, hx', ⟨rfl, rfl, fun vs e => by cases e; rfl⟩, rfl, rfl, ?_, rfl, J0.bare, raises_own O.T.exC O.T.tyC, hq (some dx) _ (upd_stp hnd) (I.hp.new0 hnd) ⟨rfl, .inr ⟨dx, _, rfl, upd_same, fun f e he => ?_⟩⟩⟩
    · by_cases hb : b = hp.objs.size + 1
      · have q' : G'.get? b = some o := q
        rw [hb, ge] at q'; cases q'
      · exact (gk b hb).symm.trans q
    · rw [upd_ne (Ne.symm dne)]
      exact hna
    · rw [ev]
      exact exnG_F hl hf he
  · have e0 : ds = [] := by
      cases ds with
      | nil => rfl
      | cons _ _ => cases hl
    subst e0
    obtain ⟨bm, N, nm, qn, bs, hdct, sn, sub, ab, col, dd, k0, k1, k2, k3, k5, mN, hC, hN, hni, T⟩ := exc_obj kin Pl.ex
    have hus : us.length ≤ sizeLine := by
      have z := r.length
      rw [show vs = [] from rd] at z
      rw [← z]
      exact Nat.zero_le _
    obtain ⟨hp, g, dr, tk, os⟩ := s
    refine wpAny_call_exc_subT F.excBase_ValueError T hC hN hni (fun h' e hm => ?_) hus
    exact L2N.mk_of I.inv hm (raises_own Pl.exC Pl.tyC) (hq none H Stp.refl I.hp ⟨rfl, .inl ⟨rfl, rfl⟩⟩) (I.inv.hok.gone hm.new)
end L3
end
section
set_option autoImplicit false
set_option linter.all false
set_option maxRecDepth 100000
/-! L3: what the kernel asks of an exception class -/
namespace L3
open PySem L2 PyProof.Rows
open PySem.W (Frag)
theorem ba {a b : Bool} (h : (a && b) = true) : a = true ∧ b = true := Bool.and_eq_true_iff.mp h
def oexB (K : Frag) (C : Addr) : Bool := (match K.lookup C with
  | some ⟨.type t, _, .cls cd, sl⟩ => decide (t = "type") && (match cd.mro, sl.toList with
    | .ref C' :: bm, [_, _, _, _, some (.builtin n), _] => decide (C' = C) && (decide (n = "ValueError.__new__") && (!cd.hasDel && (cd.hasDict && PySem.HandSPX.refsVE bm)))
    | _, _ => false)
  | _ => false) && (decide (PySem.W.findIn K (.ref C) "__setattr__" = some (some (.builtin "object.__setattr__"))) && (decide (PySem.W.subIn K (.ref C) (.type "BaseException") = some true) && (decide (PySem.W.typeIn K (.ref C) = some (.type "type")) && PySem.W.keepIn K (.ref C))))
theorem oexB_ok {K : Frag} {C : Addr} (h : oexB K C = true) : OexC K C := by
  obtain ⟨h1, h⟩ := ba h
  obtain ⟨h2, h⟩ := ba h
  obtain ⟨h3, h⟩ := ba h
  obtain ⟨h4, h5⟩ := ba h
  refine ⟨?_, of_decide_eq_true h2, of_decide_eq_true h3, of_decide_eq_true h4, h5⟩
  clear h2 h3 h4 h5 h
  split at h1
  · rename_i t dd cd sl ho
    obtain ⟨q1, g1⟩ := ba h1
    clear h1
    have q1 := of_decide_eq_true q1
    subst q1
    split at g1
    · rename_i C' bm k0 k1 k2 k3 n k5 hm hs
      obtain ⟨q2, g2⟩ := ba g1
      obtain ⟨q3, g3⟩ := ba g2
      obtain ⟨q4, g4⟩ := ba g3
      obtain ⟨q5, q6⟩ := ba g4
      clear g1 g2 g3 g4
      have r2 := of_decide_eq_true q2
      have r3 := of_decide_eq_true q3
      have r4 : cd.hasDel = false := by simpa using q4
      clear q1 q2 q3 q4
      obtain ⟨nm, bs, mro, ns, qn, hd, sn, sb, ab, col, del⟩ := cd
      obtain ⟨sl⟩ := sl
      dsimp only at hm hs r4 q5
      subst r2 r3 hm hs r4 q5
      exact ⟨_, _, _, _, _, _, _, _, _, _, _, _, _, _, _, ho, q6⟩
    · cases g1
  · cases h1
def excCB (K : Frag) (D : Addr) : Bool := decide (PySem.W.findIn K (.ref D) "__getattribute__" = some (some (.builtin "BaseException.__getattribute__"))) && (decide (PySem.W.findIn K (.ref D) "__getattr__" = some none) && (decide (PySem.W.subIn K (.ref D) (.type "BaseException") = some true) &&
  (PySem.W.hasDictIn K D && (decide (PySem.W.findIn K (.ref D) "__class__" = some (some (.builtin "object.__class__"))) && (decide (PySem.W.specialIn K (.builtin "object.__class__") "__get__" = some (some (.builtin "getset_descriptor.__get__"))) &&
    (decide (PySem.W.takesIn K (.builtin "object.__class__") = some true) && decide (PySem.W.mroIn K D (.type "object") = some true)))))))
theorem excCB_ok {K : Frag} {D : Addr} (h : excCB K D = true) : ExcC K D := by
  obtain ⟨h1, h⟩ := ba h
  obtain ⟨h2, h⟩ := ba h
  obtain ⟨h3, h⟩ := ba h
  obtain ⟨h4, h⟩ := ba h
  obtain ⟨h5, h⟩ := ba h
  obtain ⟨h6, h⟩ := ba h
  obtain ⟨h7, h8⟩ := ba h
  exact ⟨of_decide_eq_true h1, of_decide_eq_true h2, of_decide_eq_true h3, h4, of_decide_eq_true h5, of_decide_eq_true h6, of_decide_eq_true h7, of_decide_eq_true h8⟩
def strAt : Option Value → Option Str
  | some (.str f _) => some f
  | _ => none
def codeB (file : Str) (K : Frag) (v : Value) : Bool := match v with
  | .ref cda => (match K.lookup cda with
    | some ⟨_, _, .fields vs, _⟩ => decide (strAt vs[2]? = some file)
    | _ => false)
  | _ => false
theorem codeB_ok {file : Str} {K : Frag} {v : Value} {P : Program} (hf : (P.main.file : Str) = file) (h : codeB file K v = true) : ∃ cda ccl cdd vs ccs f tf, v = .ref cda ∧ K.lookup cda = some ⟨ccl, cdd, .fields vs, ccs⟩ ∧ vs[2]? = some (.str f tf) ∧ ((P.main.file : Str) == f) = true := by
  unfold codeB at h
  split at h
  · rename_i cda
    split at h
    · rename_i ccl cdd vs ccs ho
      have q := of_decide_eq_true h
      unfold strAt at q
      split at q
      · rename_i f tf e
        have q := Option.some.inj q
        exact ⟨cda, _, _, vs, _, f, tf, rfl, ho, e, by rw [hf, q]; simp⟩
      · cases q
    · cases h
  · cases h
def cellB (K : Frag) (C : Addr) (cl : List (Str × Addr)) : Bool := match cl.lookup ("__class__" : Str) with
  | some cc => (match K.lookup cc with
    | some ⟨_, _, .cell (some (.ref C')), _⟩ => decide (C' = C)
    | _ => false)
  | none => false
theorem cellB_ok {K : Frag} {C : Addr} {l : List (Str × Addr)} (h : cellB K C l = true) : ∃ cc cl cld csl, l.lookup ("__class__" : Str) = some cc ∧ K.lookup cc = some ⟨cl, cld, .cell (some (.ref C)), csl⟩ := by
  unfold cellB at h
  split at h
  · rename_i cc e
    split at h
    · rename_i cl cld C' csl ho
      have h := of_decide_eq_true h
      subst h
      exact ⟨cc, _, _, _, e, ho⟩
    · cases h
  · cases h
def fdB (file : Str) (K : Frag) (C : Addr) (fs : List Str) (fd : FuncData) : Bool :=
  (fd.params.posonlyargs.isEmpty && (decide (fd.params.args.map (·.arg) = ("self" : Str) :: fs) && (fd.params.vararg.isNone && (fd.params.kwonlyargs.isEmpty && (fd.params.kwarg.isNone && decide (fd.defaults = .none)))))) &&
  ((decide (fd.scope.kind = .function) && (!fd.scope.isCoroutine && (!fd.scope.isGenerator && (fd.scope.names.all (fun x => !decide (x.2 = .cell)) && ((("self" : Str) :: fs).all (fun p => decide (fd.scope.names.lookup p = some .local)) && (decide (fd.scope.names.lookup ("super" : Str) = some .globalImplicit) && decide (fd.scope.names.lookup ("__class__" : Str) = some .free))))))) &&
    (decide (fd.globals = mainGlobals) && (decide (fd.builtins = builtinsNs) && (PySem.W.codeIn K fd.code fd.qualname && (codeB file K fd.code && cellB K C fd.closure)))))
theorem none_of {α : Type} {o : Option α} (h : o.isNone = true) : o = none := Option.isNone_iff_eq_none.mp h
theorem nil_of {α : Type} {o : List α} (h : o.isEmpty = true) : o = [] := List.isEmpty_iff.mp h
theorem fdB_ok {file : Str} {K : Frag} {C : Addr} {fs : List Str} {fd : FuncData} {P : Program} (hf : (P.main.file : Str) = file) (h : fdB file K C fs fd = true) : FuOk P K C fs fd := by
  obtain ⟨h1, h2⟩ := ba h
  obtain ⟨h2, h3⟩ := ba h2
  obtain ⟨a1, h1⟩ := ba h1
  obtain ⟨a2, h1⟩ := ba h1
  obtain ⟨a3, h1⟩ := ba h1
  obtain ⟨a4, h1⟩ := ba h1
  obtain ⟨a5, a6⟩ := ba h1
  obtain ⟨b1, h2⟩ := ba h2
  obtain ⟨b2, h2⟩ := ba h2
  obtain ⟨b3, h2⟩ := ba h2
  obtain ⟨b4, h2⟩ := ba h2
  obtain ⟨b5, h2⟩ := ba h2
  obtain ⟨b6, b7⟩ := ba h2
  obtain ⟨c1, h3⟩ := ba h3
  obtain ⟨c2, h3⟩ := ba h3
  obtain ⟨c3, h3⟩ := ba h3
  obtain ⟨c4, c5⟩ := ba h3
  exact ⟨nil_of a1, of_decide_eq_true a2, none_of a3, nil_of a4, none_of a5, of_decide_eq_true a6, of_decide_eq_true b1, by simpa using b2, by simpa using b3, fun x hx => by
    have z := List.all_eq_true.mp b4 x hx
    simpa using z, fun p hp => of_decide_eq_true (List.all_eq_true.mp b5 p hp), of_decide_eq_true b6, of_decide_eq_true b7, of_decide_eq_true c1, of_decide_eq_true c2, c3, codeB_ok hf c4, cellB_ok c5⟩
def ownB (file : Str) (K : Frag) (C : Addr) (fs : List Str) : Bool :=
  oexB K C && (fs.all (fun f => decide (PySem.W.findIn K (.ref C) f = some none) && !(f == ("__debug__" : Str))) && (decide (("self" : Str) :: fs).Nodup && (!fs.isEmpty && (decide (fs.length ≤ 20) && (decide (PySem.W.mroIn K C (.ref C) = some true) && (decide (PySem.W.subIn K (.ref C) (.type "ValueError") = some true) &&
    (decide (PySem.W.nsIn K cStatics "thirdparty.any" = some none) && (decide (PySem.W.nsIn K mainGlobals "super" = some none) && (decide (PySem.W.ks_superIn K C C "__init__" = some (some (.builtin "ValueError.__init__"))) &&
      (match PySem.W.findIn K (.ref C) "__init__" with
        | some (some (.ref fI)) => decide (PySem.W.typeIn K (.ref fI) = some (.type "function")) && (match K.lookup fI with
          | some ⟨_, _, .func fd, _⟩ => (match fd.body with
            | .stmts body => initB fs body && fdB file K C fs fd
            | _ => false)
          | _ => false)
        | _ => false))))))))))
theorem ownB_ok {file : Str} {K : Frag} {C : Addr} {fs : List Str} {P : Program} (hf : (P.main.file : Str) = file) (ht : (P.main.scope.names.lookup ("super" : Str)).isSome = false) (h : ownB file K C fs = true) : OwnK P K C fs := by
  obtain ⟨h1, h⟩ := ba h
  obtain ⟨h2, h⟩ := ba h
  obtain ⟨h3, h⟩ := ba h
  obtain ⟨h4, h⟩ := ba h
  obtain ⟨h5, h⟩ := ba h
  obtain ⟨h6, h⟩ := ba h
  obtain ⟨h7, h⟩ := ba h
  obtain ⟨h8, h⟩ := ba h
  obtain ⟨h9, h⟩ := ba h
  obtain ⟨h10, h⟩ := ba h
  refine ⟨oexB_ok h1, fun f hf => of_decide_eq_true (ba (List.all_eq_true.mp h2 f hf)).1, fun f hf => by simpa using (ba (List.all_eq_true.mp h2 f hf)).2, of_decide_eq_true h3, ?_, of_decide_eq_true h5, of_decide_eq_true h6, of_decide_eq_true h7, of_decide_eq_true h8, of_decide_eq_true h9, of_decide_eq_true h10, ht, ?_⟩
  · cases fs with
    | nil => cases h4
    | cons a l => exact ⟨a, l, rfl⟩
  · split at h
    · rename_i fI e
      obtain ⟨q1, h⟩ := ba h
      split at h
      · rename_i oc od fd osl ho
        split at h
        · rename_i body eb
          obtain ⟨q2, q3⟩ := ba h
          exact ⟨fI, oc, od, fd, osl, body, e, of_decide_eq_true q1, ho, eb, q2, fdB_ok hf q3⟩
        · cases h
      · cases h
    · cases h
def exkB (file : Str) (K : Frag) (C : Addr) (fs : List Str) : Bool := PySem.W.keepIn K (.ref C) && (match fs with
  | [] => PySem.W.excIn K C PySem.HandSPX.veTail "ValueError.__new__" && (decide (PySem.W.subIn K (.ref C) (.type "BaseException") = some true) && decide (PySem.W.typeIn K (.ref C) = some (.type "type")))
  | f :: fs => ownB file K C (f :: fs))
theorem exkB_ok {file : Str} {K : Frag} {C : Addr} {fs : List Str} {P : Program} (hf : (P.main.file : Str) = file) (ht : (P.main.scope.names.lookup ("super" : Str)).isSome = false) (h : exkB file K C fs = true) : ExK P K C fs := by
  obtain ⟨h1, h⟩ := ba h
  refine ⟨h1, ?_⟩
  cases fs with
  | nil =>
    obtain ⟨h2, h⟩ := ba h
    obtain ⟨h3, h4⟩ := ba h
    exact .inr ⟨rfl, h2, of_decide_eq_true h3, of_decide_eq_true h4⟩
  | cons f fs => exact .inl (ownB_ok hf ht h)
end L3
end
section
set_option autoImplicit false
set_option linter.all false
set_option maxRecDepth 100000
/-! L3: the small language's preconditions are sound for expressions -/
namespace L3
open PySem L2 PyProof.Rows

/-! ### what a def promises -/
def CR3 (C : Ct) (outer : List Env) (H : Hp) (M : Mp) (s : Shared) (Q : Post) (X : Xp) (r : Result) (s' : Shared) : Prop := match r with
  | .ok (.ret u) => CE outer C.P C.w H s (QV C H M Q) u s'
  | .error e => L2N.CX C.P C.w outer H s (XK3 C H M X) e s'
  | _ => False
structure FnG (C : Ct) (mg : Str → Option Value) (base : Heap) (k : Nat) (f : Addr) (fd : FuncData) (ps : List Str) (sp : Spec) : Prop where
  len : ∀ ds M Q X, sp ds M Q X → ds.length = ps.length
  run : ∀ (A : Around) (outer : List Env) (s : Shared) (H : Hp) (args : Args) (us : List Value) (vs : List V) (ds : List D) (M : Mp) (Q : Post) (X : Xp),
    Room k A → A.guards = some [] → Env0 C.P C.w C.K mg base A outer s H → BindsTo s fd args (ps.zip us) → Vals vs us → RDs C H ds vs → RM C H M → sp ds M Q X →
    codeAny (model C.P C.w) A (.call (.ref f) args) (CR3 C outer H M s Q X) s
theorem FnG.mono {C : Ct} {mg : Str → Option Value} {base : Heap} {j k : Nat} {f : Addr} {fd : FuncData} {ps : List Str} {sp : Spec} (F : FnG C mg base j f fd ps sp) (h : j ≤ k) : FnG C mg base k f fd ps sp :=
  ⟨F.len, fun A outer s H args us vs ds M Q X hr => F.run A outer s H args us vs ds M Q X (hr.mono h)⟩

section
variable {ca : Nat → Addr} {X : Cx} {M0 M : Mp} {pins : List (Addr × Obj)} {σ3 : Lo} {σ : L2.St} {H : Hp} {s : Shared}
theorem run_fng {k : Nat} {f : Addr} {fd : FuncData} {ps : List Str} {sp : Spec} {us : List Value} {vs : List V} {ds : List D} {Q : Post} {X3 : Xs} (tk : TK ca X M0 X3) (F : FnG (ct X ca) X.mg X.base k f fd ps sp) (hr : Room k X.A) (hg : X.A.guards = some []) (hb : Binds X.K fd ps [])
    (I : I3 (ct X ca) X M0 pins σ3 M σ H s) (r : Vals vs us) (rd : RDs (ct X ca) H ds vs) (h : sp ds M Q (xat X3 σ3)) : wpAny (model X.prog X.w) X.A (call (.ref f) us) (EP3 (ct X ca) X M0 pins σ3 σ H M Q) X.xe s := by
  have hl : (us ++ []).length = ps.length := by rw [List.append_nil, ← r.length, ← rd.length]; exact F.len _ _ _ _ h
  have hb' := hb s us I.inv.kIn hl
  rw [List.append_nil] at hb'
  refine wpAny_call (codeAny_mono (F.run X.A X.stack s H ⟨us, []⟩ us vs ds M Q (xat X3 σ3) hr hg I.inv.env0 hb' r rd I.hp h) fun res s' hq => ?_)
  match res, hq with
  | .ok (.ret u), hq => exact ep_of I (I.inv.after hq)
  | .error e, hq => exact tk_call tk I hq

/-! ### the context -/
/-- what the names of the module stand for -/
structure GOk (ca : Nat → Addr) (X : Cx) (P : Pr) (gl : List (Str × GR)) : Prop where
  fn : ∀ x i, gl.lookup x = some (.fn i) → ∃ k f fd ps, X.mg x = some (.ref f) ∧ PySem.W.keepIn X.K (.ref f) = true ∧ Binds X.K fd ps [] ∧ Room k X.A ∧ FnG (ct X ca) X.mg X.base k f fd ps (P.sp i)
  blt : ∀ x, gl.lookup x = some .blt → X.mg x = none
  cls : ∀ x c i, gl.lookup x = some (.cls c i) → ∃ k f fd ps, X.mg x = some (.ref (ca c)) ∧ Mk X.K (ca c) f ∧ Binds X.K fd ps [] ∧ Room (k + 1) X.A ∧ FnG (ct X ca) X.mg X.base k f fd ps (P.sp i)
  mth : ∀ m c i, gl.lookup (dotted m) = some (.mth c i) → ∃ k f fd ps, Cls X.K (ca c) ∧ Meth X.K (ca c) m f ∧ Binds X.K fd ps [] ∧ Room k X.A ∧ FnG (ct X ca) X.mg X.base k f fd ps (P.sp i)
  fl : ∀ c f, P.fl c f = true → Cls X.K (ca c) ∧ NoAttr X.K (ca c) f
  con : ∀ x d, gl.lookup x = some (.con d) → ∃ u v, X.mg x = some u ∧ RelV v u ∧ (∀ H, RD (ct X ca) H d v) ∧ ∀ ds, d = .kt ds → ∃ a o, v = .ref a ∧ X.K.lookup a = some o ∧ o.cls = .type "tuple" ∧ o.dict = none
  exc : ∀ x c, gl.lookup x = some (.exc c) → X.mg x = some (.ref (ca c)) ∧ ExK X.prog X.K (ca c) (P.exf c) ∧ Room 4 X.A ∧ ∀ c' b, P.sub c' c = some b → PySem.W.exmOne X.K (.ref (ca c')) (.ref (ca c)) = some b
  exf : ∀ c f, (P.exf c).contains f = true → XfK X.K (ca c) f
  isx : ∀ c k b, P.isx c k = some b → IsK ca X.K (ca c) k b
  tab : ∀ x t, gl.lookup x = some (.tab t) → ∃ p, X.mg x = some (.ref p) ∧ ∀ z f, P.tab t z = some f → ∃ a k fd ps, KDct X.K X.w p z (.ref a) ∧ PySem.W.keepIn X.K (.ref a) = true ∧ Binds X.K fd ps [] ∧ Room k X.A ∧ FnG (ct X ca) X.mg X.base k a fd ps (P.sp f)
structure Ok3 (ca : Nat → Addr) (X : Cx) (P : Pr) (cc : CC) : Prop where
  N : cc.N = X.N
  sc : cc.sc = X.env.scope
  nd : X.N.Nodup
  g : GOk ca X P cc.gl
  hu : X.A.units + 80 < cLine
  hg : X.A.guards = some []
  hc : X.calm = true
  sy : SysD X.K
  cell : cc.cs = true → ∀ x, X.env.scope.names.lookup x = some .cell → X.fn x = true

def SndE (ca : Nat → Addr) (X : Cx) (M0 : Mp) (P : Pr) (X3 : Xs) (e : Expr) (i : E) : Prop :=
  ∀ (pins : List (Addr × Obj)) (s : Shared) (σ : L2.St) (H : Hp) (σ3 : Lo) (M : Mp) (Q : Post), I3 (ct X ca) X M0 pins σ3 M σ H s → wpE P (xat X3 σ3) i σ3 M Q →
    wpAny (model X.prog X.w) X.A (eval e X.env) (EP3 (ct X ca) X M0 pins σ3 σ H M Q) X.xe s
def SndEs (ca : Nat → Addr) (X : Cx) (M0 : Mp) (P : Pr) (X3 : Xs) (es : List Expr) (i : Es) : Prop :=
  ∀ (pos : Pos) (pins : List (Addr × Obj)) (s : Shared) (σ : L2.St) (H : Hp) (σ3 : Lo) (M : Mp) (Q : List D → Mp → Prop), I3 (ct X ca) X M0 pins σ3 M σ H s → wpEs P (xat X3 σ3) i σ3 M Q →
    wpAny (model X.prog X.w) X.A (spliced (backTo pos (starEach es X.env))) (EPs3 (ct X ca) X M0 pins σ3 σ H M Q) X.xe s
def SndT (ca : Nat → Addr) (X : Cx) (M0 : Mp) (P : Pr) (X3 : Xs) (e : Expr) (i : T) : Prop :=
  ∀ (whole : Sem Value) (pins : List (Addr × Obj)) (s : Shared) (σ : L2.St) (H : Hp) (σ3 : Lo) (M : Mp) (k : Bool → Mp → Prop), (whole = eval e X.env ∨ ∃ o l p, e = .BoolOp o l p) → I3 (ct X ca) X M0 pins σ3 M σ H s → wpT P (xat X3 σ3) i σ3 M k →
    wpAny (model X.prog X.w) X.A (isTrue e X.env whole) (TP3 (ct X ca) X M0 pins σ3 σ H M k) X.xe s

theorem findIdx_get {N : List Str} {x : Str} {i : Nat} (h : N.findIdx? (· == x) = some i) : N[i]? = some x := by
  obtain ⟨hl, he, _⟩ := List.findIdx?_eq_some_iff_getElem.mp h
  rw [List.getElem?_eq_getElem hl]
  simpa using he
theorem slot_ok {P : Pr} {cc : CC} {x : Str} {i : Nat} (ok : Ok3 ca X P cc) (h : cc.slot x = some i) : X.N[i]? = some x ∧ Vis X.env.scope x ∧ (x == ("__debug__" : Str)) = false ∧ (x == ("__classdict__" : Str)) = false := by
  unfold CC.slot at h
  rw [ok.N, ok.sc] at h
  cases e1 : (x == ("__debug__" : Str)) with
  | true => rw [e1] at h; cases h
  | false =>
    cases e2 : (x == ("__classdict__" : Str)) with
    | true => rw [e1, e2] at h; cases h
    | false =>
      rw [e1, e2] at h
      cases e : X.env.scope.names.lookup x with
      | none => rw [e] at h; cases h
      | some k =>
        rw [e] at h
        cases k with
        | «local» => exact ⟨findIdx_get h, .inl e, rfl, rfl⟩
        | cell => exact ⟨findIdx_get h, .inr (.inl e), rfl, rfl⟩
        | free => exact ⟨findIdx_get h, .inr (.inr e), rfl, rfl⟩
        | _ => cases h
theorem slotW_ok {P : Pr} {cc : CC} {x : Str} {i : Nat} (ok : Ok3 ca X P cc) (h : cc.slotW x = some i) : X.N[i]? = some x ∧ Loc X.env.scope x ∧ (X.fn x = true ∨ X.env.scope.names.lookup x = some .local) := by
  unfold CC.slotW at h
  rw [ok.N, ok.sc] at h
  cases e : X.env.scope.names.lookup x with
  | none => rw [e] at h; cases h
  | some k =>
    rw [e] at h
    cases k with
    | «local» => exact ⟨findIdx_get h, .inl e, .inr rfl⟩
    | cell =>
      cases ec : cc.cs with
      | true => exact ⟨findIdx_get (by rw [ec] at h; exact h), .inr e, .inl (ok.cell ec x e)⟩
      | false => rw [ec] at h; cases h
    | _ => cases h
theorem glob_ok {P : Pr} {cc : CC} {x : Str} {g : GR} (ok : Ok3 ca X P cc) (h : cc.glob x = some g) : Gl X x ∧ cc.gl.lookup x = some g ∧ (x == ("__debug__" : Str)) = false ∧ x ≠ "__name__" := by
  unfold CC.glob at h
  rw [ok.sc] at h
  cases e1 : (x == ("__debug__" : Str)) with
  | true => rw [e1] at h; cases h
  | false =>
    cases e2 : (x == ("__name__" : Str)) with
    | true => rw [e1, e2] at h; cases h
    | false =>
      rw [e1, e2] at h
      cases e : X.env.scope.names.lookup x with
      | none => rw [e] at h; cases h
      | some k =>
        rw [e] at h
        cases k with
        | globalImplicit => exact ⟨e, h, rfl, by simpa using e2⟩
        | _ => cases h

variable {P : Pr} {X3 : Xs} {cc : CC}
/-! ### one rule a construct -/
theorem s_var {x : Str} {pos : Pos} {i : Nat} (ok : Ok3 ca X P cc) (h : cc.slot x = some i) : SndE ca X M0 P X3 (.Name x pos) (.var i) := by
  intro pins s σ H σ3 M Q I hw
  obtain ⟨hN, hv, hd, hcd⟩ := slot_ok ok h
  obtain ⟨d, e, q⟩ := hw
  obtain ⟨v, ev, rd⟩ := I.lo.2 i d e
  exact thn ((pe_var hN hv hd hcd).run pins s σ H (QV (ct X ca) H M Q) I.inv ⟨v, ev, qv_now I.hp rd q⟩) fun _ _ e => ep_of I e
theorem s_con {x : Str} {pos : Pos} {d : D} (ok : Ok3 ca X P cc) (h : cc.glob x = some (.con d)) : SndE ca X M0 P X3 (.Name x pos) (.con d) := by
  intro pins s σ H σ3 M Q I hw
  obtain ⟨hg, hl, hd, _⟩ := glob_ok ok h
  obtain ⟨u, v, hm, rv, rd, _⟩ := ok.g.con x d hl
  exact ld_glob I.inv hg hm (ep_now I I.inv rv (rd H).cn hw) hd
theorem s_int {i : Int} {j : Nat} {pos : Pos} : SndE ca X M0 P X3 (.Constant (.int i) j pos) (.int i) := fun pins s σ H σ3 M Q I hw =>
  thn (pe_int.run pins s σ H (QV (ct X ca) H M Q) I.inv (qv_int I.hp hw)) fun _ _ e => ep_of I e
theorem s_bl {i : Bool} {j : Nat} {pos : Pos} : SndE ca X M0 P X3 (.Constant (.bool i) j pos) (.bl i) := fun pins s σ H σ3 M Q I hw =>
  thn (pe_bl.run pins s σ H (QV (ct X ca) H M Q) I.inv (qv_bl I.hp hw)) fun _ _ e => ep_of I e
theorem s_str {i : Str} {j : Nat} {pos : Pos} : SndE ca X M0 P X3 (.Constant (.str i) j pos) (.str i) := fun pins s σ H σ3 M Q I hw =>
  thn (pe_str.run pins s σ H (QV (ct X ca) H M Q) I.inv (qv_str I.hp hw)) fun _ _ e => ep_of I e
theorem s_non {j : Nat} {pos : Pos} : SndE ca X M0 P X3 (.Constant .none j pos) .non := fun pins s σ H σ3 M Q I hw =>
  thn (pe_non.run pins s σ H (QV (ct X ca) H M Q) I.inv (qv_non I.hp hw)) fun _ _ e => ep_of I e
/-- two in a row -/
theorem two {a b : Expr} {ia ib : E} (ha : SndE ca X M0 P X3 a ia) (hb : SndE ca X M0 P X3 b ib) {R : D → D → Mp → Prop} (I : I3 (ct X ca) X M0 pins σ3 M σ H s)
    (hw : wpE P (xat X3 σ3) ia σ3 M fun x M1 => wpE P (xat X3 σ3) ib σ3 M1 fun y M2 => R x y M2) {α : Type} {F : Value → Value → Sem α} {Z : α → Shared → Prop}
    (h : ∀ (v u : Value) (s2 : Shared) (x y : D) (av bv : V) (M2 : Mp) (H2 : Hp), I3 (ct X ca) X M0 pins σ3 M2 σ H2 s2 → RelV av v → RelV bv u → RD (ct X ca) H2 x av → RD (ct X ca) H2 y bv → Stp H M H2 M2 → R x y M2 → wpAny (model X.prog X.w) X.A (F v u) Z X.xe s2) :
    wpAny (model X.prog X.w) X.A (eval a X.env) (fun v s₁ => wpAny (model X.prog X.w) X.A (eval b X.env) (fun u s₂ => wpAny (model X.prog X.w) X.A (F v u) Z X.xe s₂) X.xe s₁) X.xe s := by
  refine thn (ha pins s σ H σ3 M _ I hw) fun v s1 ⟨x, M1, av, H1, I1, rv, rd, st, hw1⟩ => ?_
  refine thn (hb pins s1 σ H1 σ3 M1 _ I1 hw1) fun u s2 ⟨y, M2, bv, H2, I2, rv2, rd2, st2, hw2⟩ => ?_
  exact h v u s2 x y av bv M2 H2 I2 rv rv2 (rd.keep (st2.tupK I1.hp)) rd2 (st.trans st2) hw2
theorem ep_st {H1 : Hp} {M1 : Mp} {Q : Post} {u : Value} {s' : Shared} (st : Stp H M H1 M1) (h : EP3 (ct X ca) X M0 pins σ3 σ H1 M1 Q u s') : EP3 (ct X ca) X M0 pins σ3 σ H M Q u s' := ep_after st h
theorem tp_st {H1 : Hp} {M1 : Mp} {k : Bool → Mp → Prop} {b : Bool} {s' : Shared} (st : Stp H M H1 M1) (h : TP3 (ct X ca) X M0 pins σ3 σ H1 M1 k b s') : TP3 (ct X ca) X M0 pins σ3 σ H M k b s' := by
  obtain ⟨M', H', I, st', q⟩ := h
  exact ⟨M', H', I, st.trans st', q⟩
theorem s_bin {a b : Expr} {ia ib : E} {pos : Pos} {o : Operator} {o' : BOp} (ho : cBop o = some o') (ha : SndE ca X M0 P X3 a ia) (hb : SndE ca X M0 P X3 b ib) : SndE ca X M0 P X3 (.BinOp a o b pos) (.bin o' ia ib) := by
  intro pins s σ H σ3 M Q I hw
  have e : o = bop o' := by
    cases o <;> cases o' <;> first | rfl | cases ho
  subst e
  refine wpAny_BinOp (two ha hb I hw fun v u s2 x y av bv M2 H2 I2 rv rv2 rd rd2 st q => ?_)
  exact thn (o_bin o' pins s2 σ H2 M0 M2 σ3 x y av bv v u Q I2 rv rv2 rd rd2 q) fun _ _ e => ep_st st e
theorem cop_c (o : CmpOp) : cop (cCop o) = o := by cases o <;> rfl
theorem s_cmp {a b : Expr} {ia ib : E} {pos : Pos} {o : CmpOp} (ok : Ok3 ca X P cc) (hm : behindInMarks o b = false) (ha : SndE ca X M0 P X3 a ia) (hb : SndE ca X M0 P X3 b ib) : SndE ca X M0 P X3 (.Compare a [o] [b] pos) (.cmp (cCop o) ia ib) := by
  intro pins s σ H σ3 M Q I hw
  refine wpAny_Compare1 (two ha hb I hw fun v u s2 x y av bv M2 H2 I2 rv rv2 rd rd2 st q => ?_) hm
  have := o_cmp ok.hu ok.sy (cCop o) (ca := ca) pins s2 σ H2 M0 M2 σ3 x y av bv v u Q I2 rv rv2 rd rd2 q
  rw [cop_c] at this
  exact thn this fun _ _ e => ep_st st e
theorem s_cmpT {a b : Expr} {ia ib : E} {pos : Pos} {o : CmpOp} (ok : Ok3 ca X P cc) (hm : behindInMarks o b = false) (ha : SndE ca X M0 P X3 a ia) (hb : SndE ca X M0 P X3 b ib) : SndT ca X M0 P X3 (.Compare a [o] [b] pos) (.val (.cmp (cCop o) ia ib)) := by
  intro whole pins s σ H σ3 M k hwh I hw
  refine wpAny_isTrue_Compare1 (two ha hb I hw fun v u s2 x y av bv M2 H2 I2 rv rv2 rd rd2 st q => ?_) hm
  have := o_cmp ok.hu ok.sy (cCop o) (ca := ca) pins s2 σ H2 M0 M2 σ3 x y av bv v u (fun x M1 => L3.truthy x M1 fun r => k r M1) I2 rv rv2 rd rd2 q
  rw [cop_c] at this
  exact thn this fun c s3 ⟨d, M3, v3, H3, I3', r3, rd3, st3, q3⟩ => thn (o_tru I3' r3 rd3 q3) fun _ _ e => tp_st (st.trans st3) e
theorem s_un {a : Expr} {ia : E} {pos : Pos} (ha : SndE ca X M0 P X3 a ia) : SndE ca X M0 P X3 (.UnaryOp .USub a pos) (.un .neg ia) := by
  intro pins s σ H σ3 M Q I hw
  refine UnaryOp_ (thn (ha pins s σ H σ3 M _ I hw) fun v s1 ⟨x, M1, av, H1, I1, rv, rd, st, hw1⟩ => ?_)
  exact thn (o_neg I1 rv rd hw1) fun _ _ e => ep_st st e
theorem s_not {a : Expr} {ia : E} {pos : Pos} (ha : SndE ca X M0 P X3 a ia) : SndE ca X M0 P X3 (.UnaryOp .Not a pos) (.not ia) := by
  intro pins s σ H σ3 M Q I hw
  refine UnaryOp_ (thn (ha pins s σ H σ3 M _ I hw) fun v s1 ⟨x, M1, av, H1, I1, rv, rd, st, hw1⟩ => ?_)
  refine not_of (thn (o_tru (k := fun r M1 => Q (.bl (!r)) M1) I1 rv rd hw1) fun c s2 ⟨M2, H2, I2, st2, q2⟩ => ?_)
  exact ep_st (st.trans st2) (ep_bl I2 I2.inv q2)
theorem s_and {a b : Expr} {l : List Expr} {ia ib : E} {pos : Pos} (ha : SndE ca X M0 P X3 a ia) (hb : SndE ca X M0 P X3 (.BoolOp .And (b :: l) pos) ib) : SndE ca X M0 P X3 (.BoolOp .And (a :: b :: l) pos) (.and ia ib) := by
  intro pins s σ H σ3 M Q I hw
  refine BoolOp_and (thn (ha pins s σ H σ3 M _ I hw) fun v s1 ⟨x, M1, av, H1, I1, rv, rd, st, hw1⟩ => ?_)
  refine thn (o_tru (k := fun r M1 => if r = true then wpE P (xat X3 σ3) ib σ3 M1 Q else Q x M1) I1 rv rd hw1) fun c s2 ⟨M2, H2, I2, st2, q2⟩ => ?_
  cases c with
  | true => exact thn (hb pins s2 σ H2 σ3 M2 Q I2 q2) fun _ _ e => ep_st (st.trans st2) e
  | false => exact ⟨x, M2, av, H2, I2, rv, rd.keep (st2.tupK I1.hp), st.trans st2, q2⟩
theorem s_or {a b : Expr} {l : List Expr} {ia ib : E} {pos : Pos} (ha : SndE ca X M0 P X3 a ia) (hb : SndE ca X M0 P X3 (.BoolOp .Or (b :: l) pos) ib) : SndE ca X M0 P X3 (.BoolOp .Or (a :: b :: l) pos) (.or ia ib) := by
  intro pins s σ H σ3 M Q I hw
  refine BoolOp_or (thn (ha pins s σ H σ3 M _ I hw) fun v s1 ⟨x, M1, av, H1, I1, rv, rd, st, hw1⟩ => ?_)
  refine thn (o_tru (k := fun r M1 => if r = true then Q x M1 else wpE P (xat X3 σ3) ib σ3 M1 Q) I1 rv rd hw1) fun c s2 ⟨M2, H2, I2, st2, q2⟩ => ?_
  cases c with
  | false => exact thn (hb pins s2 σ H2 σ3 M2 Q I2 q2) fun _ _ e => ep_st (st.trans st2) e
  | true => exact ⟨x, M2, av, H2, I2, rv, rd.keep (st2.tupK I1.hp), st.trans st2, q2⟩
theorem s_ite {c a b : Expr} {ic : T} {ia ib : E} {pos : Pos} (hc : SndT ca X M0 P X3 c ic) (ha : SndE ca X M0 P X3 a ia) (hb : SndE ca X M0 P X3 b ib) : SndE ca X M0 P X3 (.IfExp c a b pos) (.ite ic ia ib) := by
  intro pins s σ H σ3 M Q I hw
  refine wpAny_IfExp (thn (hc _ pins s σ H σ3 M _ (.inl rfl) I hw) fun d s1 ⟨M1, H1, I1, st, hw1⟩ => ?_)
  cases d with
  | true => exact thn (ha pins s1 σ H1 σ3 M1 Q I1 hw1) fun _ _ e => ep_st st e
  | false => exact thn (hb pins s1 σ H1 σ3 M1 Q I1 hw1) fun _ _ e => ep_st st e
theorem s_nil : SndEs ca X M0 P X3 [] .nil := fun pos pins s σ H σ3 M Q I hw => Calls.spliced_nil ⟨[], M, [], H, I, .nil, rfl, Stp.refl, hw⟩
theorem star_ok {e : Expr} {es : List Expr} {env : Env} (h : notStar e = true) : starEach (e :: es) env = (false, eval e env) :: starEach es env := by
  cases e <;> first | rfl | cases h
theorem s_cons {e : Expr} {es : List Expr} {ie : E} {ies : Es} (hn : notStar e = true) (ha : SndE ca X M0 P X3 e ie) (hb : SndEs ca X M0 P X3 es ies) : SndEs ca X M0 P X3 (e :: es) (.cons ie ies) := by
  intro pos pins s σ H σ3 M Q I hw
  rw [star_ok hn]
  show wpAny _ _ (spliced ((false, eval e X.env) :: backTo pos (starEach es X.env))) _ _ s
  refine Calls.spliced_cons (thn (ha pins s σ H σ3 M _ I hw) fun v s1 ⟨x, M1, av, H1, I1, rv, rd, st, hw1⟩ => ?_)
  refine thn (hb pos pins s1 σ H1 σ3 M1 _ I1 hw1) fun us s2 ⟨ds, M2, vs, H2, I2, rv2, rd2, st2, hw2⟩ => ?_
  exact ⟨x :: ds, M2, av :: vs, H2, I2, .cons rv rv2, ⟨av, vs, rfl, rd.keep (st2.tupK I1.hp), rd2⟩, st.trans st2, hw2⟩
theorem s_tup {es : List Expr} {ies : Es} {x1 : Nat} {pos : Pos} (h : SndEs ca X M0 P X3 es ies) : SndE ca X M0 P X3 (.Tuple es x1 pos) (.tup ies) := by
  intro pins s σ H σ3 M Q I hw
  refine wpAny_Tuple_spliced (thn (h pos pins s σ H σ3 M _ I hw) fun us s1 ⟨ds, M1, vs, H1, I1, rv, rd, st, hz, q⟩ => ⟨by rw [← rv.length, ← rd.length]; exact hz, ?_⟩)
  have hf : H1 s1.heap.objs.size = none := I1.inv.hok.fresh (Nat.le_refl _)
  have J : Inv X pins σ (upd H1 s1.heap.objs.size (.tup vs)) { s1 with heap := s1.heap.push { cls := .type "tuple", data := .seq us.toArray } } :=
    I1.inv.laid (t' := s1.toks) (fun b u e => Heap.get?_push_of_some _ e) (Nat.le_refl _) ⟨by rw [← rd.length]; exact hz, us, rv, ⟨_, Heap.get?_push_size _ rfl, rfl, _, rfl⟩⟩
  exact ep_st st (ep_of I1 ⟨.ref s1.heap.objs.size, _, J, rfl, qv_tup I1.hp hf rd q⟩)
theorem s_lst {es : List Expr} {ies : Es} {pos : Pos} (h : SndEs ca X M0 P X3 es ies) : SndE ca X M0 P X3 (.List es pos) (.lst ies) := by
  intro pins s σ H σ3 M Q I hw
  refine wpAny_List_spliced (thn (h pos pins s σ H σ3 M _ I hw) fun us s1 ⟨ds, M1, vs, H1, I1, rv, rd, st, hz, q⟩ => ⟨by rw [← rv.length, ← rd.length]; exact hz, ?_⟩)
  have hf : H1 s1.heap.objs.size = none := I1.inv.hok.fresh (Nat.le_refl _)
  have J : Inv X pins σ (upd H1 s1.heap.objs.size (.lst vs)) { s1 with heap := s1.heap.push { cls := .type "list", data := .seq us.toArray } } :=
    I1.inv.laid (t' := s1.toks) (fun b u e => Heap.get?_push_of_some _ e) (Nat.le_refl _) ⟨by rw [← rd.length]; exact hz, us, 0, rv, Heap.get?_push_size _ rfl⟩
  exact ep_st st (ep_of I1 ⟨.ref s1.heap.objs.size, _, J, rfl, qv_new I1.hp hf (m := .lst ds) rd q⟩)
theorem sub_ok {b : Expr} (h : notSlice b = true) (o i : Value) : subscripted b false o i = operate [o, i] (getItem o i) := by
  cases b <;> first | rfl | cases h
theorem s_ix {a b : Expr} {ia ib : E} {pos : Pos} (ok : Ok3 ca X P cc) (hn : notSlice b = true) (ha : SndE ca X M0 P X3 a ia) (hb : SndE ca X M0 P X3 b ib) : SndE ca X M0 P X3 (.Subscript a b pos) (.ix ia ib) := by
  intro pins s σ H σ3 M Q I hw
  refine Subscript_ (two ha hb I hw fun v u s2 x y av bv M2 H2 I2 rv rv2 rd rd2 st q => ?_)
  exact thn (o_ix (by have := ok.hu; omega) I2 rv rv2 rd rd2 q (sub_ok hn v u)) fun _ _ e => ep_st st e
/-! ### tests -/
theorem t_val {e : Expr} {ie : E} (hp : plainTest e = true) (h : SndE ca X M0 P X3 e ie) : SndT ca X M0 P X3 e (.val ie) := by
  intro whole pins s σ H σ3 M k hwh I hw
  have hwh' : whole = eval e X.env := by
    rcases hwh with z | ⟨o, l, p, z⟩
    · exact z
    · subst z; cases hp
  subst hwh'
  have he : isTrue e X.env (eval e X.env) = (do let v ← eval e X.env; standAt e.pos; holding [v] (PySem.truthy v)) := by
    cases e <;> first | rfl | cases hp
  refine isTrue_plain (thn (h pins s σ H σ3 M _ I hw) fun v s1 ⟨x, M1, av, H1, I1, rv, rd, st, hw1⟩ => ?_) he
  exact thn (o_tru I1 rv rd hw1) fun _ _ e => tp_st st e
theorem t_not {a : Expr} {ia : T} {pos : Pos} (h : SndT ca X M0 P X3 a ia) : SndT ca X M0 P X3 (.UnaryOp .Not a pos) (.not ia) := by
  intro whole pins s σ H σ3 M k hwh I hw
  refine isTrue_not (thn (h _ pins s σ H σ3 M _ (.inl rfl) I hw) fun c s1 ⟨M1, H1, I1, st, q⟩ => ⟨M1, H1, I1, st, q⟩)
theorem t_and {a b : Expr} {l : List Expr} {ia ib : T} {pos : Pos} (ha : SndT ca X M0 P X3 a ia) (hb : SndT ca X M0 P X3 (.BoolOp .And (b :: l) pos) ib) : SndT ca X M0 P X3 (.BoolOp .And (a :: b :: l) pos) (.and ia ib) := by
  intro whole pins s σ H σ3 M k hwh I hw
  refine isTrue_and (thn (ha _ pins s σ H σ3 M _ (.inl rfl) I hw) fun c s1 ⟨M1, H1, I1, st, q⟩ => ?_)
  cases c with
  | true => exact thn (hb whole pins s1 σ H1 σ3 M1 k (.inr ⟨_, _, _, rfl⟩) I1 q) fun _ _ e => tp_st st e
  | false => exact ⟨M1, H1, I1, st, q⟩
theorem t_or {a b : Expr} {l : List Expr} {ia ib : T} {pos : Pos} (ha : SndT ca X M0 P X3 a ia) (hb : SndT ca X M0 P X3 (.BoolOp .Or (b :: l) pos) ib) : SndT ca X M0 P X3 (.BoolOp .Or (a :: b :: l) pos) (.or ia ib) := by
  intro whole pins s σ H σ3 M k hwh I hw
  refine isTrue_or (thn (ha _ pins s σ H σ3 M _ (.inl rfl) I hw) fun c s1 ⟨M1, H1, I1, st, q⟩ => ?_)
  cases c with
  | false => exact thn (hb whole pins s1 σ H1 σ3 M1 k (.inr ⟨_, _, _, rfl⟩) I1 q) fun _ _ e => tp_st st e
  | true => exact ⟨M1, H1, I1, st, q⟩
theorem t_one {o : BoolOp} {a : Expr} {ia : T} {pos : Pos} (ha : SndT ca X M0 P X3 a ia) : SndT ca X M0 P X3 (.BoolOp o [a] pos) ia := by
  intro whole pins s σ H σ3 M k hwh I hw
  cases o with
  | And =>
    refine isTrue_and (thn (ha _ pins s σ H σ3 M k (.inl rfl) I hw) fun c s1 e => ?_)
    cases c with
    | true => exact isTrue_and_nil e
    | false => exact e
  | Or =>
    refine isTrue_or (thn (ha _ pins s σ H σ3 M k (.inl rfl) I hw) fun c s1 e => ?_)
    cases c with
    | false => exact isTrue_or_nil e
    | true => exact e
end
end L3
end
section
set_option autoImplicit false
set_option linter.all false
set_option maxRecDepth 100000
/-! L3: calls -/
namespace L3
open PySem L2 PyProof.Rows

section
variable {ca : Nat → Addr} {X : Cx} {M0 M : Mp} {pins : List (Addr × Obj)} {σ3 : Lo} {σ : L2.St} {H : Hp} {s : Shared} {P : Pr} {X3 : Xs} {cc : CC}
def Plain (es : List Expr) : Prop := ∀ e ∈ es, notStar e = true
theorem plain_any {pos : Pos} {env : Env} : ∀ {es : List Expr}, Plain es → (backTo pos (starEach es env)).any (·.1) = false
  | [], _ => rfl
  | e :: es, h => by
    rw [star_ok (h e List.mem_cons_self)]
    show (false || (backTo pos (starEach es env)).any (·.1)) = false
    rw [plain_any fun x hx => h x (List.mem_cons_of_mem _ hx)]
    rfl
theorem plain_all {pos : Pos} {env : Env} : ∀ {es : List Expr}, Plain es → (backTo pos (starEach es env)).all (fun x => !x.1) = true
  | [], _ => rfl
  | e :: es, h => by
    rw [star_ok (h e List.mem_cons_self)]
    show (true && (backTo pos (starEach es env)).all (fun x => !x.1)) = true
    rw [plain_all fun x hx => h x (List.mem_cons_of_mem _ hx)]
    rfl
theorem cEs_plain : ∀ {n : Nat} {es : List Expr} {i : Es}, cEs n cc es = some i → Plain es
  | 0, _, _, h => by simp [cEs] at h
  | n + 1, [], _, _ => fun _ hx => nomatch hx
  | n + 1, e :: es, i, h => by
    cases hn : notStar e with
    | false => simp [cEs, hn] at h
    | true =>
      cases h1 : cE n cc e with
      | none => simp [cEs, hn, h1] at h
      | some e' =>
        cases h2 : cEs n cc es with
        | none => simp [cEs, hn, h1, h2] at h
        | some es' =>
          intro x hx
          rcases List.mem_cons.mp hx with rfl | hx
          · exact hn
          · exact cEs_plain h2 x hx
theorem eps_st {H1 : Hp} {M1 : Mp} {Q : List D → Mp → Prop} {u : List Value} {s' : Shared} (st : Stp H M H1 M1) (h : EPs3 (ct X ca) X M0 pins σ3 σ H1 M1 Q u s') : EPs3 (ct X ca) X M0 pins σ3 σ H M Q u s' := by
  obtain ⟨d, M', v, H', I, r, rd, st', q⟩ := h
  exact ⟨d, M', v, H', I, r, rd, st.trans st', q⟩
/-- f(..), a def of the module -/
theorem s_call {f : Str} {p pos : Pos} {i : Nat} {e : Expr} {es : List Expr} {ies : Es} (tk : TK ca X M0 X3) (ok : Ok3 ca X P cc) (hf : cc.glob f = some (.fn i)) (hp : Plain (e :: es)) (ha : SndEs ca X M0 P X3 (e :: es) ies) : SndE ca X M0 P X3 (.Call (.Name f p) (e :: es) [] pos) (.call i ies) := by
  intro pins s σ H σ3 M Q I hw
  obtain ⟨hg, hl, hd, _⟩ := glob_ok ok hf
  obtain ⟨k, a, fd, ps, hm, hk, hb, hr, F⟩ := ok.g.fn f i hl
  refine wpAny_Call_Name_kw (ld_glob I.inv hg hm ?_ hd)
  refine PySem.W.callWith_K (h₀ := X.base) I.inv.ok.mod.kin hk (thn (ha pos pins s σ H σ3 M _ I hw) fun us s1 ⟨ds, M1, vs, H1, I1, r, rd, st, q⟩ => ⟨I1.inv.kIn, ?_⟩) (star_ok (hp e List.mem_cons_self)) (plain_any fun x hx => hp x (List.mem_cons_of_mem _ hx))
  exact thn (run_fng tk F hr ok.hg hb I1 r rd q) fun _ _ e => ep_st st e
theorem s_call0 {f : Str} {p pos : Pos} {i : Nat} (tk : TK ca X M0 X3) (ok : Ok3 ca X P cc) (hf : cc.glob f = some (.fn i)) : SndE ca X M0 P X3 (.Call (.Name f p) [] [] pos) (.call i .nil) := by
  intro pins s σ H σ3 M Q I hw
  obtain ⟨hg, hl, hd, _⟩ := glob_ok ok hf
  obtain ⟨k, a, fd, ps, hm, hk, hb, hr, F⟩ := ok.g.fn f i hl
  refine wpAny_Call_Name_kw (ld_glob I.inv hg hm ?_ hd)
  exact PySem.W.callWith_K0 I.inv.kIn hk (run_fng (us := []) (vs := []) (ds := []) tk F hr ok.hg hb I .nil (show RDs (ct X ca) H [] [] from rfl) hw)
/-- a built-in called by its name -/
theorem s_bltF {f : Str} {id : String} {p pos : Pos} {b : Blt} {e : Expr} {es : List Expr} {ies : Es} (ok : Ok3 ca X P cc) (hf : cc.glob f = some .blt) (hv : bootBuiltins f = some (.builtin id)) (hF : Fn3 ca X (.builtin id) (wpBlt b)) (hp : Plain (e :: es)) (ha : SndEs ca X M0 P X3 (e :: es) ies) :
    SndE ca X M0 P X3 (.Call (.Name f p) (e :: es) [] pos) (.blt b ies) := by
  intro pins s σ H σ3 M Q I hw
  obtain ⟨hg, hl, hd, hn⟩ := glob_ok ok hf
  refine wpAny_Call_Name_kw (ld_blt I.inv hg (ok.g.blt f hl) hv ?_ hn hd)
  refine callWith_builtin1 (thn (ha pos pins s σ H σ3 M _ I hw) fun us s1 ⟨ds, M1, vs, H1, I1, r, rd, st, q⟩ => ?_) (star_ok (hp e List.mem_cons_self)) (plain_any fun x hx => hp x (List.mem_cons_of_mem _ hx))
  exact thn (hF pins s1 σ H1 M0 M1 σ3 ds vs us Q I1 r rd q) fun _ _ e => ep_st st e
theorem s_bltT {f : Str} {T : String} {p pos : Pos} {b : Blt} {e : Expr} {es : List Expr} {ies : Es} (ok : Ok3 ca X P cc) (hf : cc.glob f = some .blt) (hv : bootBuiltins f = some (.type T)) (hF : Fn3 ca X (.type T) (wpBlt b)) (hp : Plain (e :: es)) (ha : SndEs ca X M0 P X3 (e :: es) ies) :
    SndE ca X M0 P X3 (.Call (.Name f p) (e :: es) [] pos) (.blt b ies) := by
  intro pins s σ H σ3 M Q I hw
  obtain ⟨hg, hl, hd, hn⟩ := glob_ok ok hf
  refine wpAny_Call_Name_kw (ld_blt I.inv hg (ok.g.blt f hl) hv ?_ hn hd)
  refine callWith_type1 (thn (ha pos pins s σ H σ3 M _ I hw) fun us s1 ⟨ds, M1, vs, H1, I1, r, rd, st, q⟩ => ?_) (star_ok (hp e List.mem_cons_self)) (plain_any fun x hx => hp x (List.mem_cons_of_mem _ hx))
  exact thn (hF pins s1 σ H1 M0 M1 σ3 ds vs us Q I1 r rd q) fun _ _ e => ep_st st e
theorem ite_str {x y : Str} {α : Type} {a b : Option α} {c : α} (h : (if x == y then a else b) = some c) : (x = y ∧ a = some c) ∨ b = some c := by
  cases e : x == y with
  | true => rw [e] at h; exact .inl ⟨by simpa using e, h⟩
  | false => rw [e] at h; exact .inr h
theorem s_blt {f : Str} {p pos : Pos} {b : Blt} {e : Expr} {es : List Expr} {ies : Es} (ok : Ok3 ca X P cc) (hf : cc.glob f = some .blt) (hb : cBlt f = some b) (hp : Plain (e :: es)) (ha : SndEs ca X M0 P X3 (e :: es) ies) :
    SndE ca X M0 P X3 (.Call (.Name f p) (e :: es) [] pos) (.blt b ies) := by
  unfold cBlt at hb
  rcases ite_str hb with ⟨rfl, hb⟩ | hb
  · cases hb; exact s_bltF ok hf boot_len f_len hp ha
  rcases ite_str hb with ⟨rfl, hb⟩ | hb
  · cases hb; exact s_bltT ok hf (by decide +kernel) f_int hp ha
  rcases ite_str hb with ⟨rfl, hb⟩ | hb
  · cases hb; exact s_bltF ok hf boot_repr (f_repr ok.hg ok.hu ok.sy) hp ha
  rcases ite_str hb with ⟨rfl, hb⟩ | hb
  · cases hb; exact s_bltF ok hf boot_max (f_max ok.hc) hp ha
  rcases ite_str hb with ⟨rfl, hb⟩ | hb
  · cases hb; exact s_bltF ok hf (by decide +kernel) (f_min ok.hc) hp ha
  rcases ite_str hb with ⟨rfl, hb⟩ | hb
  · cases hb; exact s_bltF ok hf (by decide +kernel) f_abs hp ha
  rcases ite_str hb with ⟨rfl, hb⟩ | hb
  · cases hb; exact s_bltT ok hf (by decide +kernel) f_str hp ha
  rcases ite_str hb with ⟨rfl, hb⟩ | hb
  · cases hb; exact s_bltT ok hf (by decide +kernel) (f_list ok.hc) hp ha
  rcases ite_str hb with ⟨rfl, hb⟩ | hb
  · cases hb; exact s_bltT ok hf (by decide +kernel) f_tuple hp ha
  rcases ite_str hb with ⟨rfl, hb⟩ | hb
  · cases hb; exact s_bltF ok hf (by decide +kernel) (f_sum ok.hc) hp ha
  rcases ite_str hb with ⟨rfl, hb⟩ | hb
  · cases hb; exact s_bltF ok hf (by decide +kernel) (f_sorted ok.hc ok.sy ok.hu) hp ha
  · cases hb
/-! ### methods of built-in types -/
theorem noSuper_ok {o : Expr} {m : Str} {env : Env} (h : noSuper o = true) : attributeBase o m env (eval o env) = eval o env := by
  unfold attributeBase
  split
  · cases h
  · rfl
structure MthOk (ca : Nat → Addr) (X : Cx) (T id : String) (m : Str) (rk : RK) (mm : Mth) : Prop where
  pa : PlainAttrs T
  slot : Slot T m id
  ty : typeOf (.builtin id) = pure (.type "method_descriptor")
  rule : Mt3 ca X id (fun x ds M Q => rcv x M = some rk ∧ wpMth mm x ds M Q)
  is : ∀ (pins : List (Addr × Obj)) (s : Shared) (σ : L2.St) (H : Hp) (M0 M : Mp) (σ3 : Lo) (x : D) (a : V) (v : Value), I3 (ct X ca) X M0 pins σ3 M σ H s → RelV a v → RD (ct X ca) H x a → rcv x M = some rk → s.TypeIs v T ∧ ∀ b, v = .ref b → ∃ ob, s.heap.get? b = some ob ∧ ob.dict = none
theorem rcv_lst {x : D} {M : Mp} (h : rcv x M = some .lst) : ∃ a ds, x = .ref a ∧ M a = some (.lst ds) := by
  cases x with
  | ref a =>
    cases e : M a with
    | none => simp only [rcv, e] at h; cases h
    | some o => cases o with
      | lst ds => exact ⟨a, ds, rfl, e⟩
      | _ => simp only [rcv, e] at h; cases h
  | _ => cases h
theorem is_lst : ∀ (pins : List (Addr × Obj)) (s : Shared) (σ : L2.St) (H : Hp) (M0 M : Mp) (σ3 : Lo) (x : D) (a : V) (v : Value), I3 (ct X ca) X M0 pins σ3 M σ H s → RelV a v → RD (ct X ca) H x a → rcv x M = some .lst → s.TypeIs v "list" ∧ ∀ b, v = .ref b → ∃ ob, s.heap.get? b = some ob ∧ ob.dict = none := by
  intro pins s σ H M0 M σ3 x a v I rv rd h
  obtain ⟨p, ds, rfl, hm⟩ := rcv_lst h
  have e : a = .ref p := rd
  subst e
  obtain ⟨xs, hx, _⟩ := I.hp.lst hm
  exact tyV_is (T := "list") (x := .ref p) I.inv rv (.inl ⟨rfl, xs, SqL.of hx⟩)
theorem is_str : ∀ (pins : List (Addr × Obj)) (s : Shared) (σ : L2.St) (H : Hp) (M0 M : Mp) (σ3 : Lo) (x : D) (a : V) (v : Value), I3 (ct X ca) X M0 pins σ3 M σ H s → RelV a v → RD (ct X ca) H x a → rcv x M = some .str → s.TypeIs v "str" ∧ ∀ b, v = .ref b → ∃ ob, s.heap.get? b = some ob ∧ ob.dict = none := by
  intro pins s σ H M0 M σ3 x a v I rv rd h
  cases x with
  | str z =>
    have e : a = .str z := rd
    subst e
    obtain ⟨t, rfl⟩ := rv
    exact ⟨typeIs_str _ _ _, fun b e => nomatch e⟩
  | ref p =>
    cases e : M p with
    | none => simp only [rcv, e] at h; cases h
    | some o => cases o <;> (simp only [rcv, e] at h; cases h)
  | _ => cases h
theorem is_dct : ∀ (pins : List (Addr × Obj)) (s : Shared) (σ : L2.St) (H : Hp) (M0 M : Mp) (σ3 : Lo) (x : D) (a : V) (v : Value), I3 (ct X ca) X M0 pins σ3 M σ H s → RelV a v → RD (ct X ca) H x a → rcv x M = some .dct → s.TypeIs v "dict" ∧ ∀ b, v = .ref b → ∃ ob, s.heap.get? b = some ob ∧ ob.dict = none := by
  intro pins s σ H M0 M σ3 x a v I rv rd h
  obtain ⟨p, o, rfl, g, ho⟩ := rcv_dct h
  have e : a = .ref p := rd
  subst e
  cases rv
  have two : ∀ {kvs : List (D × D)}, DT M p kvs → s.TypeIs (.ref p) "dict" ∧ ∀ b, Value.ref p = .ref b → ∃ ob, s.heap.get? b = some ob ∧ ob.dict = none := fun {kvs} h => by
    obtain ⟨_, _, _, us, _, _, _, _, dd⟩ := I.dtAt h
    exact dt_type dd
  have one : ∀ {kvs : List (D × D)}, M p = some (.dct kvs) ∨ M p = some (.lck kvs) → s.TypeIs (.ref p) "dict" ∧ ∀ b, Value.ref p = .ref b → ∃ ob, s.heap.get? b = some ob ∧ ob.dict = none := fun {kvs} h => by
    obtain ⟨ks, hr, _⟩ := I.dkRd h
    obtain ⟨_, _, vs, _, dd⟩ := dk_rd I.inv.hok hr
    refine ⟨dd.typeIs, fun b q => ?_⟩
    cases q
    obtain ⟨ob, _, _, h1, h2, _⟩ := dd
    exact ⟨ob, h1, h2.2.1⟩
  rcases ho with ⟨kvs, rfl⟩ | ⟨kvs, rfl⟩ | ⟨kvs, rfl⟩ | ⟨kvs, rfl⟩
  · exact one (.inl g)
  · exact one (.inr g)
  · exact two (.inl g)
  · exact two (.inr g)
theorem mok_pop : MthOk ca X "list" "list.pop" "pop" .lst .pop := ⟨PySem.F.plainAttrs_list, PySem.F.slot_list_pop, PySem.F.type_list_pop, m_pop, is_lst⟩
theorem mok_dget (hu : X.A.units + 80 < cLine) : MthOk ca X "dict" "dict.get" "get" .dct .get := ⟨PySem.F.plainAttrs_dict, PySem.F.slot_dict_get, PySem.F.type_dict_get, m_dget hu, is_dct⟩
theorem mok_dpop (hu : X.A.units + 80 < cLine) : MthOk ca X "dict" "dict.pop" "pop" .dct .pop := ⟨PySem.F.plainAttrs_dict, PySem.F.slot_dict_pop, PySem.F.type_dict_pop, m_dpop hu, is_dct⟩
theorem mok_remove (hu : X.A.units + 80 < cLine) : MthOk ca X "list" "list.remove" "remove" .lst .remove := ⟨PySem.F.plainAttrs_list, PySem.F.slot_list_remove, PySem.F.type_list_remove, m_remove hu, is_lst⟩
theorem mok_clear : MthOk ca X "list" "list.clear" "clear" .lst .clear := ⟨PySem.F.plainAttrs_list, PySem.F.slot_list_clear, PySem.F.type_list_clear, m_clear, is_lst⟩
theorem mok_dclear : MthOk ca X "dict" "dict.clear" "clear" .dct .clear := ⟨PySem.F.plainAttrs_dict, PySem.F.slot_dict_clear, PySem.F.type_dict_clear, m_dclear, is_dct⟩
theorem mok_append : MthOk ca X "list" "list.append" "append" .lst .append := ⟨PySem.F.plainAttrs_list, PySem.F.slot_list_append, PySem.F.type_list_append, m_append, is_lst⟩
theorem mok_extend : MthOk ca X "list" "list.extend" "extend" .lst .extend := ⟨PySem.F.plainAttrs_list, PySem.F.slot_list_extend, PySem.F.type_list_extend, m_extend, is_lst⟩
theorem mok_strIndex : MthOk ca X "str" "str.index" "index" .str .index := ⟨PySem.F.plainAttrs_str, PySem.F.slot_str_index, PySem.F.type_str_index, m_strIndex, is_str⟩
theorem mok_strJoin : MthOk ca X "str" "str.join" "join" .str .join := ⟨PySem.F.plainAttrs_str, PySem.F.slot_str_join, PySem.F.type_str_join, m_strJoin, is_str⟩
theorem mok_ok (hu : X.A.units + 80 < cLine) {m : Str} {mm : Mth} {r : Option RK} (hm : cMth m = some mm) (h : mok r mm = true) : ∃ rk T id, r = some rk ∧ MthOk ca X T id m rk mm := by
  unfold cMth at hm
  rcases ite_str hm with ⟨rfl, hm⟩ | hm
  · cases hm
    match r, h with
    | some .lst, _ => exact ⟨.lst, _, _, rfl, mok_append⟩
  rcases ite_str hm with ⟨rfl, hm⟩ | hm
  · cases hm
    match r, h with
    | some .lst, _ => exact ⟨.lst, _, _, rfl, mok_extend⟩
  rcases ite_str hm with ⟨rfl, hm⟩ | hm
  · cases hm
    match r, h with
    | some .lst, _ => exact ⟨.lst, _, _, rfl, mok_pop⟩
    | some .dct, _ => exact ⟨.dct, _, _, rfl, mok_dpop hu⟩
  rcases ite_str hm with ⟨rfl, hm⟩ | hm
  · cases hm
    match r, h with
    | some .str, _ => exact ⟨.str, _, _, rfl, mok_strIndex⟩
  rcases ite_str hm with ⟨rfl, hm⟩ | hm
  · cases hm
    match r, h with
    | some .dct, _ => exact ⟨.dct, _, _, rfl, mok_dget hu⟩
  rcases ite_str hm with ⟨rfl, hm⟩ | hm
  · cases hm
    match r, h with
    | some .str, _ => exact ⟨.str, _, _, rfl, mok_strJoin⟩
  rcases ite_str hm with ⟨rfl, hm⟩ | hm
  · cases hm
    cases r with
    | none => cases h
    | some r => cases r <;> cases h
  rcases ite_str hm with ⟨rfl, hm⟩ | hm
  · cases hm
    match r, h with
    | some .lst, _ => exact ⟨.lst, _, _, rfl, mok_remove hu⟩
  rcases ite_str hm with ⟨rfl, hm⟩ | hm
  · cases hm
    match r, h with
    | some .lst, _ => exact ⟨.lst, _, _, rfl, mok_clear⟩
    | some .dct, _ => exact ⟨.dct, _, _, rfl, mok_dclear⟩
  cases hm
theorem s_mth (hu : X.A.units + 80 < cLine) {m : Str} {mm : Mth} {o : Expr} {ap pos : Pos} {es : List Expr} {io : E} {ies : Es} (hm : cMth m = some mm) (hn : noSuper o = true) (hl : (ap.endLine == pos.line) = true) (hz : es.length < 25) (hp : Plain es) (he : es = [] → ies = .nil) (ho : SndE ca X M0 P X3 o io) (ha : SndEs ca X M0 P X3 es ies) :
    SndE ca X M0 P X3 (.Call (.Attribute o m ap) es [] pos) (.mth io mm ies) := by
  intro pins s σ H σ3 M Q I hw
  have few : ((backTo pos (starEach es X.env)).all (fun x => !x.1) && (backToKw pos (keywordEach [] X.env)).all (fun x => x.1.isSome) && decide (es.length + ([] : List Keyword).length + (if ([] : List Keyword).isEmpty then 0 else 1) < 30)) = true := by
    rw [plain_all hp]
    show (true && true && decide (es.length + 0 + 0 < 30)) = true
    simp only [Bool.and_true, Bool.true_and, decide_eq_true_eq]
    omega
  refine wpAny_Call_method_late (noSuper_ok hn) few hl rfl (thn (ho pins s σ H σ3 M _ I hw) fun v s1 ⟨x, M1, av, H1, I1, rv, rd, st, hk, hw1⟩ => ?_)
  obtain ⟨rk, T, id, hr, W⟩ := mok_ok (ca := ca) (X := X) hu hm hk
  obtain ⟨h1, h2⟩ := W.is pins s1 σ H1 M0 M1 σ3 x av v I1 rv rd hr
  refine ⟨T, id, W.pa, W.slot, W.ty, h1, h2, ?_⟩
  have fin : ∀ (us : List Value) (s2 : Shared), EPs3 (ct X ca) X M0 pins σ3 σ H1 M1 (fun ds M2 => rcv x M2 = rcv x M1 ∧ wpMth mm x ds M2 Q) us s2 → wpAny (model X.prog X.w) X.A (call (.builtin id) (v :: us)) (EP3 (ct X ca) X M0 pins σ3 σ H M Q) X.xe s2 := fun us s2 ⟨ds, M2, vs, H2, I2, r2, rd2, st2, hk2, q⟩ =>
    thn (W.rule pins s2 σ H2 M0 M2 σ3 x av v ds vs us Q I2 rv (rd.keep (st2.tupK I1.hp)) r2 rd2 ⟨hk2.trans hr, q⟩) fun _ _ e => ep_st (st.trans st2) e
  cases es with
  | nil =>
    rw [he rfl] at hw1
    exact Calls.callWith_builtin rfl (PySem.evalArgs_none (fin [] s1 ⟨[], M1, [], H1, I1, .nil, rfl, Stp.refl, hw1⟩))
  | cons e es =>
    have hA := ha pos pins s1 σ H1 σ3 M1 _ I1 hw1
    rw [star_ok (hp e List.mem_cons_self)] at hA ⊢
    refine Calls.callWith_builtin (by show (false || (backTo pos (starEach es X.env)).any (·.1)) = false; rw [plain_any fun x hx => hp x (List.mem_cons_of_mem _ hx)]; rfl) (Calls.evalArgs_plain ?_)
    exact thn hA fun us s2 h => fin us s2 h
/-! ### classes -/
theorem lookupP {C : Ct} {fs : List (Str × D)} {gs : List (Str × V)} (p : Paired (fun (p : Str × D) (q : Str × V) => p.1 = q.1 ∧ RD C H p.2 q.2) fs gs) (f : Str) : (∀ d, fs.lookup f = some d → ∃ v, gs.lookup f = some v ∧ RD C H d v) ∧ (fs.lookup f = none → gs.lookup f = none) := by
  induction p with
  | nil => exact ⟨(fun d e => nomatch e), fun _ => rfl⟩
  | @cons a b l1 l2 r t ih =>
    obtain ⟨a1, a2⟩ := a
    obtain ⟨b1, b2⟩ := b
    obtain ⟨r1, r2⟩ := r
    have r1' : a1 = b1 := r1
    subst r1'
    simp only [List.lookup_cons]
    cases e : f == a1 with
    | true => exact ⟨fun d h => by cases h; exact ⟨b2, rfl, r2⟩, fun h => nomatch h⟩
    | false => exact ih
theorem putP {C : Ct} {f : Str} {d : D} {v : V} (rd : RD C H d v) : ∀ {fs : List (Str × D)} {gs : List (Str × V)}, Paired (fun (p : Str × D) (q : Str × V) => p.1 = q.1 ∧ RD C H p.2 q.2) fs gs → Paired (fun (p : Str × D) (q : Str × V) => p.1 = q.1 ∧ RD C H p.2 q.2) (putFd f d fs) (putF f v gs)
  | _, _, .nil => .cons ⟨rfl, rd⟩ .nil
  | _, _, .cons (a := (a1, a2)) (b := (b1, b2)) r t => by
    have r1 : a1 = b1 := r.1
    subst r1
    unfold putFd putF
    by_cases h : a1 = f
    · rw [if_pos h, if_pos h]
      exact .cons ⟨rfl, rd⟩ t
    · rw [if_neg h, if_neg h]
      exact .cons r (putP rd t)
theorem o_fld (ok : Ok3 ca X P cc) {x : D} {a : V} {v : Value} {f : Str} {b : Bool} {Q : Post} (I : I3 (ct X ca) X M0 pins σ3 M σ H s) (ra : RelV a v) (hx : RD (ct X ca) H x a) (h : wpFld P x f M Q) : wpAny (model X.prog X.w) X.A (getAttr v f b) (EP3 (ct X ca) X M0 pins σ3 σ H M Q) X.xe s := by
  cases x with
  | ref p =>
    have e : a = .ref p := hx; subst e
    cases ra
    cases g : M p with
    | none => simp only [wpFld, g] at h
    | some o =>
      cases o with
      | ins c fs =>
        simp only [wpFld, g] at h
        obtain ⟨hf, d, hd, q⟩ := h
        obtain ⟨dx, gs, hH, pd⟩ := I.hp.ins g
        obtain ⟨w, hw, rw'⟩ := (lookupP pd f).1 d hd
        obtain ⟨c1, c2⟩ := ok.g.fl c f hf
        exact getattr_ok I.inv hH c1 c2 hw fun u s' J ru => ep_now I J ru rw' q
      | _ => simp only [wpFld, g] at h
  | exn c ds => exact (show False from hx).elim
  | _ => exact h.elim
theorem s_fld {o : Expr} {f : Str} {pos : Pos} {io : E} (ok : Ok3 ca X P cc) (hn : noSuper o = true) (ho : SndE ca X M0 P X3 o io) : SndE ca X M0 P X3 (.Attribute o f pos) (.fld io f) := by
  intro pins s σ H σ3 M Q I hw
  refine attr_of (noSuper_ok hn) (thn (ho pins s σ H σ3 M _ I hw) fun v s1 ⟨x, M1, av, H1, I1, rv, rd, st, q⟩ => ?_)
  exact thn (o_fld ok I1 rv rd q) fun _ _ e => ep_st st e
theorem o_setFld (ok : Ok3 ca X P cc) {x y : D} {a b : V} {v u : Value} {f : Str} {k : Mp → Prop} (I : I3 (ct X ca) X M0 pins σ3 M σ H s) (ra : RelV a v) (rb : RelV b u) (hx : RD (ct X ca) H x a) (hy : RD (ct X ca) H y b) (h : wpSetFld P x f y M k) :
    wpAny (model X.prog X.w) X.A (setAttr v f u) (fun _ s' => ∃ M' H', I3 (ct X ca) X M0 pins σ3 M' σ H' s' ∧ TupK H H' ∧ k M') X.xe s := by
  cases x with
  | ref p =>
    have e : a = .ref p := hx; subst e
    cases ra
    cases g : M p with
    | none => simp only [wpSetFld, g] at h
    | some o =>
      cases o with
      | ins c fs =>
        simp only [wpSetFld, g] at h
        obtain ⟨⟨hf, hl⟩, q⟩ := h
        obtain ⟨dx, gs, hH, pd⟩ := I.hp.ins g
        obtain ⟨c1, c2⟩ := ok.g.fl c f hf
        have hl2 : gs.length < 1000 := by have := Paired.length pd; omega
        refine setattr_ok I.inv hH c1 c2 hl2 rb fun s' J => ⟨_, _, I.to J (I.hp.write (m' := .ins c (putFd f y fs)) g ⟨rfl, ?_⟩) (write_stp I.hp g), I.hp.tupKw g, q⟩
        have kk : TupK H (upd H p (.ins (ca c) dx (putF f b gs))) := I.hp.tupKw g
        exact Paired.mapP (putP hy pd) fun _ _ z => ⟨z.1, z.2.keep kk⟩
      | _ => simp only [wpSetFld, g] at h
  | _ => exact h.elim
theorem make_guards {A : Around} {C : Addr} {us : List Value} {kw : List (Str × Value)} : (A.under (.builtin "type.__call__" ⟨.ref C :: us, kw⟩)).guards = A.guards := by
  first | rfl | simp [Around.under, Code.weight, Code.isCreation, Code.isGuard, Code.isCaller, Code.frames, Code.isFrame, guardIds]
theorem run_mk {k : Nat} {f : Addr} {c : Nat} {fd : FuncData} {ps : List Str} {sp : Spec} {us : List Value} {vs : List V} {ds : List D} {Q : Post} (tk : TK ca X M0 X3) (K : Mk X.K (ca c) f) (F : FnG (ct X ca) X.mg X.base k f fd ps sp) (hr : Room (k + 1) X.A) (hg : X.A.guards = some []) (hb : Binds X.K fd ps [])
    (I : I3 (ct X ca) X M0 pins σ3 M σ H s) (r : Vals vs us) (rd : RDs (ct X ca) H ds vs) (h : ∀ p, M p = none → sp (.ref p :: ds) (mset M p (.ins c [])) (fun d M2 => d = .non ∧ Q (.ref p) M2) (xat X3 σ3)) :
    wpAny (model X.prog X.w) X.A (call (.ref (ca c)) us) (EP3 (ct X ca) X M0 pins σ3 σ H M Q) X.xe s := by
  have n1 : H (s.heap.objs.size) = none := I.inv.hok.fresh (Nat.le_refl _)
  have n2 : H (s.heap.objs.size + 1) = none := I.inv.hok.fresh (Nat.le_succ _)
  have ne : s.heap.objs.size + 1 ≠ s.heap.objs.size := Nat.succ_ne_self _
  have hq := h (s.heap.objs.size + 1) (I.hp.free n2)
  have J := Inv.made (C := ca c) I.inv
  have n3 : (upd H s.heap.objs.size (.own (s.heap.objs.size + 1))) (s.heap.objs.size + 1) = none := by rw [upd_ne ne]; exact n2
  have rm : RM (ct X ca) (upd (upd H s.heap.objs.size (.own (s.heap.objs.size + 1))) (s.heap.objs.size + 1) (.ins (ca c) s.heap.objs.size [])) (mset M (s.heap.objs.size + 1) (.ins c [])) :=
    RM.new (I.hp.new0 n1) n3 ⟨rfl, .nil⟩
  have st : Stp H M (upd (upd H s.heap.objs.size (.own (s.heap.objs.size + 1))) (s.heap.objs.size + 1) (.ins (ca c) s.heap.objs.size [])) (mset M (s.heap.objs.size + 1) (.ins c [])) := (upd_stp n1).trans (mset_stp n3)
  have I2 := I.to J rm st
  have r2 : Vals (V.ref (s.heap.objs.size + 1) :: vs) (Value.ref (s.heap.objs.size + 1) :: us) := .cons rfl r
  have rd2 : RDs (ct X ca) (upd (upd H s.heap.objs.size (.own (s.heap.objs.size + 1))) (s.heap.objs.size + 1) (.ins (ca c) s.heap.objs.size [])) (.ref (s.heap.objs.size + 1) :: ds) (V.ref (s.heap.objs.size + 1) :: vs) := ⟨_, _, rfl, rfl, rd.keep (st.tupK I.hp)⟩
  have hl : (Value.ref (s.heap.objs.size + 1) :: us).length = ps.length := by rw [← r2.length, ← rd2.length]; exact F.len _ _ _ _ hq
  have b := hb _ (Value.ref (s.heap.objs.size + 1) :: us) J.kIn (by rw [List.append_nil]; exact hl)
  rw [List.append_nil] at b
  refine wpAny_call (make_map (f := f) I.inv.kIn K.makes K.init (beq_iff_eq.mp K.fn) (codeAny_mono (F.run _ X.stack _ _ ⟨Value.ref (s.heap.objs.size + 1) :: us, []⟩ (Value.ref (s.heap.objs.size + 1) :: us) _ _ _ _ (xat X3 σ3) (hr.make (ca c) us []) (by rw [make_guards]; exact hg)
    (J.env0.make (ca c) us []) b r2 rd2 rm hq) fun res s' hres => ?_))
  match res, hres with
  | .error e, hres => exact tk_call tk I2 hres
  | .ok (.ret u), hres =>
    obtain ⟨v, H', J2, rv, d, M', rm', st', rdv, ed, q⟩ := J.after hres
    subst ed
    have ev : v = .non := rdv
    subst ev
    exact ⟨rv, .ref (s.heap.objs.size + 1), M', .ref (s.heap.objs.size + 1), H', I2.to J2 rm' st', rfl, rfl, st.trans st', q⟩
theorem s_make {x : Str} {p pos : Pos} {c i : Nat} {e : Expr} {es : List Expr} {ies : Es} (tk : TK ca X M0 X3) (ok : Ok3 ca X P cc) (hf : cc.glob x = some (.cls c i)) (hp : Plain (e :: es)) (ha : SndEs ca X M0 P X3 (e :: es) ies) : SndE ca X M0 P X3 (.Call (.Name x p) (e :: es) [] pos) (.make c i ies) := by
  intro pins s σ H σ3 M Q I hw
  obtain ⟨hg, hl, hd, _⟩ := glob_ok ok hf
  obtain ⟨k, f, fd, ps, hm, K, hb, hr, F⟩ := ok.g.cls x c i hl
  refine wpAny_Call_Name_kw (ld_glob I.inv hg hm ?_ hd)
  refine PySem.W.callWith_K (h₀ := X.base) I.inv.ok.mod.kin K.kp (thn (ha pos pins s σ H σ3 M _ I hw) fun us s1 ⟨ds, M1, vs, H1, I1, r, rd, st, q⟩ => ⟨I1.inv.kIn, ?_⟩) (star_ok (hp e List.mem_cons_self)) (plain_any fun x hx => hp x (List.mem_cons_of_mem _ hx))
  exact thn (run_mk tk K F hr ok.hg hb I1 r rd q) fun _ _ e => ep_st st e
theorem s_make0 {x : Str} {p pos : Pos} {c i : Nat} (tk : TK ca X M0 X3) (ok : Ok3 ca X P cc) (hf : cc.glob x = some (.cls c i)) : SndE ca X M0 P X3 (.Call (.Name x p) [] [] pos) (.make c i .nil) := by
  intro pins s σ H σ3 M Q I hw
  obtain ⟨hg, hl, hd, _⟩ := glob_ok ok hf
  obtain ⟨k, f, fd, ps, hm, K, hb, hr, F⟩ := ok.g.cls x c i hl
  refine wpAny_Call_Name_kw (ld_glob I.inv hg hm ?_ hd)
  exact PySem.W.callWith_K0 I.inv.kIn K.kp (run_mk (us := []) (vs := []) (ds := []) tk K F hr ok.hg hb I .nil (show RDs (ct X ca) H [] [] from rfl) hw)
theorem s_umth {m : Str} {o : Expr} {ap pos : Pos} {es : List Expr} {io : E} {ies : Es} {c i : Nat} (tk : TK ca X M0 X3) (ok : Ok3 ca X P cc) (hm : cc.gl.lookup (dotted m) = some (.mth c i)) (hn : noSuper o = true) (hl : (ap.endLine == pos.line) = true) (hz : es.length < 25) (hp : Plain es) (he : es = [] → ies = .nil)
    (ho : SndE ca X M0 P X3 o io) (ha : SndEs ca X M0 P X3 es ies) : SndE ca X M0 P X3 (.Call (.Attribute o m ap) es [] pos) (.umth io m c i ies) := by
  intro pins s σ H σ3 M Q I hw
  obtain ⟨k, f, fd, ps, c1, c2, hb, hr, F⟩ := ok.g.mth m c i hm
  have few : methodCallForm (es.length + ([] : List Keyword).length) (backTo pos (starEach es X.env)) (backToKw pos (keywordEach [] X.env)) = true := by
    unfold methodCallForm
    rw [plain_all hp]
    show (true && true && decide (es.length + 0 + 0 < 30)) = true
    simp only [Bool.and_true, Bool.true_and, decide_eq_true_eq]
    omega
  have ht : eval (.Call (.Attribute o m ap) es [] pos) X.env = (do
      let ov ← eval o X.env
      standAt ap.atName
      let (f, first) ← holding [ov] (getMethod ov m (plainOf o X.env))
      callWith pos f first (backTo pos (starEach es X.env)) (backToKw pos (keywordEach [] X.env))) := by
    rw [arm_eval_Call, noSuper_ok hn]
    congr 1
    funext ov
    congr 1
    funext _
    exact mcall_line few hl
  refine PySem.W.methodCall_KW (pl := plainOf o X.env) (thn (ho pins s σ H σ3 M _ I hw) fun v s1 ⟨x, M1, av, H1, I1, rv, rd, st, ⟨a, fs, ex, hM, hno⟩, hw1⟩ => ?_) ht
  subst ex
  have ea : av = .ref a := rd
  subst ea
  cases rv
  obtain ⟨dx, gs, hH, pd⟩ := I1.hp.ins hM
  refine getmeth_ok I1.inv hH c1 c2 ((lookupP pd m).2 hno) ?_
  cases es with
  | nil =>
    rw [he rfl] at hw1
    exact PySem.W.callWith_K0 (first := [.ref a]) I1.inv.kIn c2.kp (thn (run_fng (us := [.ref a]) (vs := [.ref a]) (ds := [.ref a]) tk F hr ok.hg hb I1 (.cons rfl .nil) ⟨_, _, rfl, rfl, rfl⟩ hw1) fun _ _ e => ep_st st e)
  | cons e es =>
    refine PySem.W.callWith_K (first := [.ref a]) (h₀ := X.base) I1.inv.ok.mod.kin c2.kp (thn (ha pos pins s1 σ H1 σ3 M1 _ I1 hw1) fun us s2 ⟨ds, M2, vs, H2, I2, r2, rd2, st2, q2⟩ => ⟨I2.inv.kIn, ?_⟩) (star_ok (hp e List.mem_cons_self)) (plain_any fun x hx => hp x (List.mem_cons_of_mem _ hx))
    exact thn (run_fng (us := .ref a :: us) (vs := .ref a :: vs) (ds := .ref a :: ds) tk F hr ok.hg hb I2 (.cons rfl r2) ⟨_, _, rfl, rfl, rd2⟩ q2) fun _ _ e => ep_st (st.trans st2) e
theorem s_dnew {pos : Pos} : SndE ca X M0 P X3 (.Dict [] [] pos) (.dct .nil) := by
  intro pins s σ H σ3 M Q I hw
  rcases hw with ⟨_, hw | hw⟩ | ⟨kvs, e, hn, _⟩
  · exact thn (pe_dnewK.run pins s σ H (QV (ct X ca) H M Q) I.inv fun p hp => qv_new I.hp hp (m := .dct []) ⟨[], rfl, .nil⟩ hw) fun _ _ e => ep_of I e
  · exact t_new I fun p s' hp hs J => ep_of I ⟨.ref p, _, J, rfl, qv_new I.hp hp (m := .dcT []) ⟨hs, Nat.zero_le _, [], rfl, List.nodup_nil, .nil⟩ hw⟩
  · cases e
    exact absurd rfl hn
theorem s_cidx {x : Str} {ap p pos : Pos} {ds : List D} {e : Expr} {ies : Es} (ok : Ok3 ca X P cc) (hf : cc.glob x = some (.con (.kt ds))) (hl : (ap.endLine == pos.line) = true) (hp : Plain [e]) (ha : SndEs ca X M0 P X3 [e] ies) :
    SndE ca X M0 P X3 (.Call (.Attribute (.Name x p) "index" ap) [e] [] pos) (.cidx ds ies) := by
  intro pins s σ H σ3 M Q I hw
  obtain ⟨hg, hlk, hd, _⟩ := glob_ok ok hf
  obtain ⟨u, v, hm, rv, rd, tp⟩ := ok.g.con x _ hlk
  obtain ⟨a, o, rfl, hk, hc, hdn⟩ := tp ds rfl
  cases rv
  have few : ((backTo pos (starEach [e] X.env)).all (fun x => !x.1) && (backToKw pos (keywordEach [] X.env)).all (fun x => x.1.isSome) && decide (([e] : List Expr).length + ([] : List Keyword).length + (if ([] : List Keyword).isEmpty then 0 else 1) < 30)) = true := by
    rw [plain_all hp]
    rfl
  refine wpAny_Call_method_late (noSuper_ok rfl) few hl rfl (ld_glob I.inv hg hm ?_ hd)
  obtain ⟨h1, h2⟩ := tyV_is (T := "tuple") (x := .ref a) I.inv rfl (.inr (.inl ⟨rfl, o, hk, hc, hdn⟩))
  refine ⟨"tuple", "tuple.index", PySem.F.plainAttrs_tuple, PySem.F.slot_tuple_index, PySem.F.type_tuple_index, h1, h2, ?_⟩
  have hA := ha pos pins s σ H σ3 M _ I hw
  rw [star_ok (hp e List.mem_cons_self)] at hA ⊢
  refine Calls.callWith_builtin rfl (Calls.evalArgs_plain ?_)
  refine thn hA fun us s1 ⟨ds2, M1, vs, H1, I1, r, rd1, st, ys, z, j, e1, e2, h3, h4, q⟩ => ?_
  subst e1 e2
  exact thn (m_tupIndex pins s1 σ H1 M0 M1 σ3 (.kt (ys.map .str)) (.ref a) (.ref a) [.str z] vs us Q I1 rfl (rd H1) r rd1 ⟨rfl, ys, z, j, rfl, rfl, h3, h4, q⟩) fun _ _ e => ep_st st e
end
end L3
end
section
set_option autoImplicit false
set_option linter.all false
set_option maxRecDepth 100000
/-! L3: a table of defs, called by a text -/
namespace L3
open PySem L2 PyProof.Rows
section
variable {ca : Nat → Addr} {X : Cx} {M0 M : Mp} {pins : List (Addr × Obj)} {σ3 : Lo} {σ : L2.St} {H : Hp} {s : Shared} {P : Pr} {X3 : Xs} {cc : CC}
theorem call_ix (a b : Expr) (p : Pos) (args : List Expr) (kw : List Keyword) (pos : Pos) (env : Env) : eval (.Call (.Subscript a b p) args kw pos) env = (do
    let f ← eval (.Subscript a b p) env
    callWith pos f [] (backTo pos (starEach args env)) (backToKw pos (keywordEach kw env))) := rfl
theorem s_tcall {x : Str} {p1 p2 pos : Pos} {t : Nat} {key e : Expr} {ik : E} {es : List Expr} {ies : Es} (tk : TK ca X M0 X3) (ok : Ok3 ca X P cc) (hf : cc.glob x = some (.tab t)) (hn : notSlice key = true) (hk : SndE ca X M0 P X3 key ik) (hp : Plain (e :: es)) (ha : SndEs ca X M0 P X3 (e :: es) ies) :
    SndE ca X M0 P X3 (.Call (.Subscript (.Name x p1) key p2) (e :: es) [] pos) (.disp t ik ies) := by
  intro pins s σ H σ3 M Q I hw
  obtain ⟨hg, hl, hd, _⟩ := glob_ok ok hf
  obtain ⟨p, hm, tb⟩ := ok.g.tab x t hl
  rw [call_ix]
  refine wpAny_bind (Subscript_ (ld_glob I.inv hg hm (thn (hk pins s σ H σ3 M _ I hw) fun u s1 ⟨d, M1, v, H1, I1, rv, rd, st, hw1⟩ => ?_) hd))
  cases d with
  | str z =>
    obtain ⟨f, hf2, hw2⟩ := hw1
    obtain ⟨a, k, fd, ps, hD, hkp, hb, hr, F⟩ := tb z f hf2
    have ev : v = .str z := rd
    subst ev
    refine thn (ix_kdict (.Name x p1) key pins s1 σ H1 (.ref p) (.str z) (.ref p) u (fun w H' => w = .ref a ∧ H' = H1) I1.inv rfl rv ⟨p, z, .ref a, rfl, rfl, hD, rfl, rfl⟩ (sub_ok hn _ _)) fun fv s2 ⟨w, H2, J, rw_, ew, eH⟩ => ?_
    subst ew eH
    have ef : fv = .ref a := rw_
    subst ef
    have I2 : I3 (ct X ca) X M0 pins σ3 M1 σ H2 s2 := ⟨J, I1.lo, I1.hp, I1.st⟩
    refine PySem.W.callWith_K (h₀ := X.base) I2.inv.ok.mod.kin hkp (thn (ha pos pins s2 σ H2 σ3 M1 _ I2 hw2) fun us s3 ⟨ds, M3, vs, H3, I3', r, rd3, st3, q⟩ => ⟨I3'.inv.kIn, ?_⟩) (star_ok (hp e List.mem_cons_self)) (plain_any fun x hx => hp x (List.mem_cons_of_mem _ hx))
    exact thn (run_fng tk F hr ok.hg hb I3' r rd3 q) fun _ _ e => ep_st (st.trans st3) e
  | _ => exact hw1.elim
end
end L3
end
section
set_option autoImplicit false
set_option linter.all false
set_option maxRecDepth 100000
/-! L3: slices -/
namespace L3
open PySem L2 PyProof.Rows

def optI : D → Option Int
  | .int i => some i
  | _ => none
theorem sLo_eq {n : Nat} {d : D} (h : d.ion = true) : HT.sIx n 0 (optI d) = sLo n d := by
  cases d with
  | int i =>
    show (if i < 0 then (i + (n : Int)).toNat else min i.toNat n) = if 0 ≤ i then min i.toNat n else (i + n).toNat
    by_cases h0 : 0 ≤ i
    · rw [if_neg (by omega), if_pos h0]
    · rw [if_pos (by omega), if_neg h0]
  | non => rfl
  | _ => cases h
theorem sHi_eq {n : Nat} {d : D} (h : d.ion = true) : HT.sIx n n (optI d) = sHi n d := by
  cases d with
  | int i =>
    show (if i < 0 then (i + (n : Int)).toNat else min i.toNat n) = if 0 ≤ i then min i.toNat n else (i + n).toNat
    by_cases h0 : 0 ≤ i
    · rw [if_neg (by omega), if_pos h0]
    · rw [if_pos (by omega), if_neg h0]
  | non => rfl
  | _ => cases h
section
variable {ca : Nat → Addr} {X : Cx} {M0 M : Mp} {pins : List (Addr × Obj)} {σ3 : Lo} {σ : L2.St} {H : Hp} {s : Shared} {P : Pr} {cc : CC} {X3 : Xs}
theorem part_of {C : Ct} {d : D} {v : V} {u : Value} (h : d.ion = true) (rv : RelV v u) (rd : RD C H d v) : IsPart u (optI d) := by
  cases d with
  | int i =>
    have e : v = .int i := rd
    subst e
    obtain ⟨t, rfl⟩ := rv
    exact .int i t
  | non =>
    have e : v = .non := rd
    subst e
    cases (show u = Value.none from rv)
    exact .none
  | _ => cases h
theorem cutV_rd {C : Ct} {ds : List D} {xs : List V} {lo hi : D} (h1 : lo.ion = true) (h2 : hi.ion = true) (r : RDs C H ds xs) : RDs C H (cut ds lo hi) (cutV xs (optI lo) (optI hi)) := by
  unfold cut cutV
  rw [sLo_eq h1, sHi_eq h2, r.length]
  exact (r.drop _).take _
/-- a slice's part -/
def SndP (ca : Nat → Addr) (X : Cx) (M0 : Mp) (P : Pr) (X3 : Xs) (e : Option Expr) (i : E) : Prop :=
  ∀ (pins : List (Addr × Obj)) (s : Shared) (σ : L2.St) (H : Hp) (σ3 : Lo) (M : Mp) (Q : Post), I3 (ct X ca) X M0 pins σ3 M σ H s → wpE P (xat X3 σ3) i σ3 M Q →
    wpAny (model X.prog X.w) X.A (evalPart e X.env) (EP3 (ct X ca) X M0 pins σ3 σ H M Q) X.xe s
theorem sp_none : SndP ca X M0 P X3 none .non := by
  intro pins s σ H σ3 M Q I hw
  rw [evalPart_none]
  exact wpAny_pure (ep_now (v := .non) (d := .non) I I.inv rfl rfl hw)
theorem sp_some {e : Expr} {ie : E} (h : SndE ca X M0 P X3 e ie) : SndP ca X M0 P X3 (some e) ie := by
  intro pins s σ H σ3 M Q I hw
  rw [evalPart_some]
  exact h pins s σ H σ3 M Q I hw
theorem s_sl {a : Expr} {lo hi : Option Expr} {p2 pos : Pos} {ia il ih : E} (ha : SndE ca X M0 P X3 a ia) (hl : SndP ca X M0 P X3 lo il) (hh : SndP ca X M0 P X3 hi ih) :
    SndE ca X M0 P X3 (.Subscript a (.Slice lo hi none p2) pos) (.sl ia il ih) := by
  intro pins s σ H σ3 M Q I hw
  refine Subscript_ (thn (ha pins s σ H σ3 M _ I hw) fun v s1 ⟨x, M1, av, H1, I1, rv, rd, st1, q1⟩ => ?_)
  refine wpAny_Slice (thn (hl pins s1 σ H1 σ3 M1 _ I1 q1) fun vl s2 ⟨l, M2, lv, H2, I2, rl, rdl, st2, q2⟩ => thn (hh pins s2 σ H2 σ3 M2 _ I2 q2) fun vu s3 ⟨h, M3, hv, H3, I3', rh, rdh, st3, q3⟩ => ?_)
  rw [evalPart_none]
  refine wpAny_pure ?_
  obtain ⟨⟨o1, o2⟩, q⟩ := q3
  have rd3 := (rd.keep (st2.tupK I1.hp)).keep (st3.tupK I2.hp)
  have pl : IsPart vl (optI l) := part_of o1 rl rdl
  have pu : IsPart vu (optI h) := part_of o2 rh rdh
  have I4 : Inv X pins σ H3 { s3 with heap := s3.heap.push { cls := .type "slice", data := .fields #[vl, vu, .none] } } := I3'.inv.kept (t' := s3.toks) fun b ob q => Heap.get?_push_of_some _ q
  have J4 := I3'.same I4
  have fin : ∀ {r : V → Option Int → Option Int → Hp → VK → Prop}, SlR X r → r av (optI l) (optI h) H3 (QV (ct X ca) H3 M3 Q) →
      wpAny (model X.prog X.w) X.A (subscriptTail a (.Slice lo hi none p2) v (.ref s3.heap.objs.size)) (EP3 (ct X ca) X M0 pins σ3 σ H M Q) X.xe { s3 with heap := s3.heap.push { cls := .type "slice", data := .fields #[vl, vu, .none] } } := fun hr q' => by
    obtain ⟨T, id, hT, ht, hg⟩ := hr pins _ σ H3 av v vl vu (optI l) (optI h) s3.heap.objs.size (QV (ct X ca) H3 M3 Q) I4 rv (Heap.IsSliceOf.new ..) pl pu q'
    exact thn (tail_any (ops := [.ref s3.heap.objs.size, v]) ht hT hg (by with_unfolding_all rfl)) fun _ _ e => ep_st ((st1.trans st2).trans st3) (ep_of J4 e)
  show wpAny (model X.prog X.w) X.A (subscriptTail a (.Slice lo hi none p2) v (.ref s3.heap.objs.size)) _ X.xe _
  cases x with
  | tup ds =>
    obtain ⟨p, xs, rfl, hq, rs⟩ := rd3
    refine fin sl_tupA ⟨p, xs, rfl, hq.sq, fun ⟨w1, w2⟩ => ?_, fun _ p2 hp => qv_tup J4.hp hp (cutV_rd o1 o2 rs) q⟩
    have e : cut ds l h = ds := by
      unfold cut
      rw [sLo_eq o1] at w1
      rw [sHi_eq o2] at w2
      rw [rs.length, w1, w2, Nat.sub_zero, List.drop_zero, ← rs.length, List.take_length]
    have q : Q (.tup (cut ds l h)) M3 := q
    rw [e] at q
    exact qv_now J4.hp (d := .tup ds) ⟨p, xs, rfl, hq, rs⟩ q
  | str z =>
    obtain ⟨hz, q⟩ := q
    have e : av = .str z := rd3
    refine fin sl_str ⟨z, e, hz, qv_str J4.hp ?_⟩
    have : cutS z (optI l) (optI h) = ⟨(cut z.cps.toList l h).toArray⟩ := by
      unfold cutS cut
      rw [sLo_eq o1, sHi_eq o2]
      rfl
    rw [this]
    exact q
  | ref p =>
    have e : av = .ref p := rd3
    subst e
    have q' : (match M3 p with | some (.lst ds) => wpNew M3 (.lst (cut ds l h)) Q | _ => False) := q
    cases e2 : M3 p with
    | none => rw [e2] at q'; exact q'.elim
    | some o =>
      rw [e2] at q'
      cases o with
      | lst ds =>
        obtain ⟨xs, hxs, rs⟩ := J4.hp.lst e2
        exact fin sl_list ⟨p, xs, rfl, SqL.of hxs, fun p2 hp => qv_new (m := .lst (cut ds l h)) J4.hp hp (cutV_rd o1 o2 rs) q'⟩
      | _ => exact q'.elim
  | _ => exact q.elim
end
end L3
end
section
set_option autoImplicit false
set_option linter.all false
set_option maxRecDepth 100000
/-! L3: isinstance -/
namespace L3
open PySem L2 PyProof.Rows

def Ty.nm : Ty → String
  | .int => "int"
  | .bool => "bool"
  | .str => "str"
  | .list => "list"
  | .tuple => "tuple"
theorem cTy_ok {x : Str} {t : Ty} (h : cTy x = some t) : bootBuiltins x = some (.type t.nm) ∧ x ≠ "__name__" ∧ (x == ("__debug__" : Str)) = false := by
  unfold cTy at h
  rcases ite_str h with ⟨rfl, h⟩ | h
  · cases h; exact ⟨by decide +kernel, by decide +kernel, by decide +kernel⟩
  rcases ite_str h with ⟨rfl, h⟩ | h
  · cases h; exact ⟨by decide +kernel, by decide +kernel, by decide +kernel⟩
  rcases ite_str h with ⟨rfl, h⟩ | h
  · cases h; exact ⟨by decide +kernel, by decide +kernel, by decide +kernel⟩
  rcases ite_str h with ⟨rfl, h⟩ | h
  · cases h; exact ⟨by decide +kernel, by decide +kernel, by decide +kernel⟩
  rcases ite_str h with ⟨rfl, h⟩ | h
  · cases h; exact ⟨by decide +kernel, by decide +kernel, by decide +kernel⟩
  · cases h
theorem kit_ok {n : String} {t : Ty} (h : n = "NoneType" ∨ n = "bool" ∨ n = "int" ∨ n = "str" ∨ n = "tuple" ∨ n = "list" ∨ n = "dict") : kitB n t.nm = some (isTyN n t) := by
  rcases h with rfl | rfl | rfl | rfl | rfl | rfl | rfl <;> cases t <;> decide +kernel
section
variable {ca : Nat → Addr} {X : Cx} {M0 M : Mp} {P : Pr} {cc : CC} {X3 : Xs} {σ3 : Lo} {σ : L2.St} {H : Hp} {s : Shared} {pins : List (Addr × Obj)}
theorem tyx_of {x : D} {v : V} {n : String} (I : I3 (ct X ca) X M0 pins σ3 M σ H s) (rd : RD (ct X ca) H x v) (h : tyName x M = some n) : TyX X.K H v (.type n) ∧ (n = "NoneType" ∨ n = "bool" ∨ n = "int" ∨ n = "str" ∨ n = "tuple" ∨ n = "list" ∨ n = "dict") := by
  cases x with
  | non => cases h; rw [show v = .non from rd]; exact ⟨.base .non, by simp⟩
  | bl b => cases h; rw [show v = .bl b from rd]; exact ⟨.base (.bl b), by simp⟩
  | int i => cases h; rw [show v = .int i from rd]; exact ⟨.base (.int i), by simp⟩
  | str i => cases h; rw [show v = .str i from rd]; exact ⟨.base (.str i), by simp⟩
  | tup ds =>
    cases h
    obtain ⟨a, xs, rfl, hq, _⟩ := rd
    rcases hq with hq | (hq | ⟨_, hq⟩) | ⟨o, its, n, hk, hc, _⟩
    · exact ⟨.base (.tup hq), by simp⟩
    · cases hq
    · cases hq
    · exact ⟨.kTuple hk hc, by simp⟩
  | kt ds =>
    cases h
    obtain ⟨a, xs, rfl, hq, _⟩ := rd
    rcases hq with (hq | ⟨_, hq⟩) | ⟨o, its, n, hk, hc, _⟩
    · cases hq
    · cases hq
    · exact ⟨.kTuple hk hc, by simp⟩
  | kl ds =>
    cases h
    obtain ⟨a, xs, rfl, hq, _⟩ := rd
    rcases hq with ⟨ob, hq⟩ | ⟨o, its, n, hk, hc, _⟩
    · exact ⟨.base (.frz hq), by simp⟩
    · exact ⟨.kList hk hc, by simp⟩
  | ref a =>
    rw [show v = .ref a from rd]
    have h' : (match M a with
      | some (.lst _) => some "list"
      | some (.dct _) => some "dict"
      | _ => none) = some n := h
    cases e : M a with
    | none => rw [e] at h'; cases h'
    | some o =>
      rw [e] at h'
      cases o with
      | lst ds => cases h'; obtain ⟨xs, hx, _⟩ := I.hp.lst e; exact ⟨.base (.lst hx), by simp⟩
      | dct kvs => cases h'; obtain ⟨ks, hx, _⟩ := I.hp.dct e; exact ⟨.base (.dK hx), by simp⟩
      | _ => cases h'
  | exn c ds => cases h
theorem s_inst {a : Expr} {T : Str} {p p2 pos : Pos} {ia : E} {t : Ty} (ok : Ok3 ca X P cc) (h1 : cc.glob "isinstance" = some .blt) (h2 : cc.glob T = some .blt) (hT : cTy T = some t) (hn : notStar a = true) (ha : SndE ca X M0 P X3 a ia) :
    SndE ca X M0 P X3 (.Call (.Name "isinstance" p) [a, .Name T p2] [] pos) (.inst ia t) := by
  intro pins s σ H σ3 M Q I hw
  obtain ⟨hg, hl, hd, hnn⟩ := glob_ok ok h1
  obtain ⟨hg2, hl2, hd2, hn2⟩ := glob_ok ok h2
  obtain ⟨c1, _, _⟩ := cTy_ok hT
  have hp : Plain [.Name T p2] := fun x hx => by
    rw [List.mem_singleton] at hx
    subst hx
    rfl
  refine wpAny_Call_Name_kw (ld_blt I.inv hg (ok.g.blt _ hl) boot_isinstance ?_ hnn hd)
  refine callWith_builtin1 ?_ (star_ok hn) (plain_any hp)
  rw [star_ok hn]
  show wpAny _ _ (spliced ((false, eval a X.env) :: backTo pos (starEach [.Name T p2] X.env))) _ _ s
  refine Calls.spliced_cons (thn (ha pins s σ H σ3 M _ I hw) fun v s1 ⟨x, M1, av, H1, I1, rv, rd, st, n, hn1, q⟩ => ?_)
  show wpAny _ _ (spliced ((false, eval (.Name T p2) X.env) :: backTo pos (starEach [] X.env))) _ _ s1
  refine Calls.spliced_cons (ld_blt I1.inv hg2 (ok.g.blt _ hl2) c1 (Calls.spliced_nil ?_) hn2 hd2)
  obtain ⟨g1, g2⟩ := tyx_of I1 rd hn1
  exact thn (call_isi pins s1 σ H1 [av, .ty t.nm] [v, .type t.nm] (QV (ct X ca) H1 M1 Q) I1.inv (.cons rv (.cons rfl .nil)) ⟨av, .ty t.nm, .type n, .type t.nm, isTyN n t, rfl, .ty _, g1, kit_ty (kit_ok g2), qv_bl I1.hp q⟩) fun _ _ e => ep_st st (ep_of I1 e)
end
end L3
end
section
set_option autoImplicit false
set_option linter.all false
set_option maxRecDepth 100000
/-! L3: what is walked, and the for loop -/
namespace L3
open PySem L2 PyProof.Rows

/-- .. whatever is wanted of exceptions ahead -/
def SndEx (ca : Nat → Addr) (X : Cx) (M0 : Mp) (P : Pr) (e : Expr) (i : E) : Prop := ∀ X3 : Xs, TK ca X M0 X3 → SndE ca X M0 P X3 e i
def SndTx (ca : Nat → Addr) (X : Cx) (M0 : Mp) (P : Pr) (e : Expr) (i : T) : Prop := ∀ X3 : Xs, TK ca X M0 X3 → SndT ca X M0 P X3 e i
def SndEsx (ca : Nat → Addr) (X : Cx) (M0 : Mp) (P : Pr) (e : List Expr) (i : Es) : Prop := ∀ X3 : Xs, TK ca X M0 X3 → SndEs ca X M0 P X3 e i
/-- the walk J yields the values ds one by one, while G holds of the heap; H0: the heap at its start -/
def ItRel (C : Ct) (J : It) (ds : List D) (G : Mp → Prop) (H0 : Hp) : Prop :=
  ∀ (H : Hp) (M : Mp), TupK H0 H → RM C H M → G M → (∀ i d, ds[i]? = some d → J.go i H ∧ ∀ x H', J.yld i H x H' → RM C H' M ∧ Stp H M H' M ∧ RD C H' d x) ∧ J.stop ds.length H
/-- a new object of M is nothing to what is undone -/
def FinN (fin : Mp → Mp) : Prop := ∀ (M : Mp) (b : Addr) (m : MO), M b = none → m.free → fin (mset M b m) = mset (fin M) b m ∧ fin M b = none
/-- what is undone behind the walk; Hs: the heap ahead of it -/
def FinOk (ca : Nat → Addr) (X : Cx) (fin : Mp → Mp) (Hs : Hp) : Prop := FinN fin ∧
  ∀ (M0 : Mp) (pins : List (Addr × Obj)) (σ3 : Lo) (M : Mp) (σ : L2.St) (H : Hp) (s : Shared), I3 (ct X ca) X M0 pins σ3 M σ H s → TupK Hs H → ∃ H', I3 (ct X ca) X M0 pins σ3 (fin M) σ H' s ∧ TupK Hs H' ∧ TupK0 H H' ∧ ∀ b o, H b = some o → M b = none → H' b = some o ∧ fin M b = none
def It3 (ca : Nat → Addr) (X : Cx) (M0 : Mp) (tg : Expr) (pins : List (Addr × Obj)) (σ3 : Lo) (σ : L2.St) (H : Hp) (M : Mp) (R : ItR) (itv : Value) (s2 : Shared) : Prop :=
  ∃ (it : Addr) (fp : List Addr) (tn : Nat → Heap → Prop) (J : It) (H' : Hp) (M' : Mp) (ds : List D) (G : Mp → Prop) (fin : Mp → Mp), itv = .ref it ∧ I3 (ct X ca) X M0 pins σ3 M' σ H' s2 ∧ Turn X.prog X.w X.K tg J fp it tn ∧ tn 0 s2.heap ∧ (∀ b ∈ fp, FpOk X pins H' b) ∧
    Stp H M H' M' ∧ ItRel (ct X ca) J ds G H' ∧ FinOk ca X fin H ∧ R ds G M' fin
/-- what is walked comes -/
def SndI (ca : Nat → Addr) (X : Cx) (M0 : Mp) (P : Pr) (tg e : Expr) (k : ItK) (es : Es) : Prop :=
  ∀ (X3 : Xs), TK ca X M0 X3 → ∀ (pins : List (Addr × Obj)) (s : Shared) (σ : L2.St) (H : Hp) (σ3 : Lo) (M : Mp) (R : ItR), I3 (ct X ca) X M0 pins σ3 M σ H s → wpEs P (xat X3 σ3) es σ3 M (fun ds M1 => wpIt k ds M1 R) →
    wpAny (model X.prog X.w) X.A (eval e X.env) (fun v s1 => wpAny (model X.prog X.w) X.A (pyIter v) (It3 ca X M0 tg pins σ3 σ H M R) X.xe s1) X.xe s

section
variable {ca : Nat → Addr} {X : Cx} {M0 M : Mp} {pins : List (Addr × Obj)} {σ3 : Lo} {σ : L2.St} {H : Hp} {s : Shared} {P : Pr} {cc : CC}
theorem finId {Hs : Hp} : FinOk ca X id Hs := ⟨fun M b m h _ => ⟨rfl, h⟩, fun M0 pins σ3 M σ H s I k => ⟨H, I, k, TupK.refl.weak, fun b o h n => ⟨h, n⟩⟩⟩
theorem free_unl {m : MO} (h : m.free) : m.unl = none := by
  cases m <;> first | rfl | exact h.elim
theorem unlk_some {a : Addr} {M : Mp} {o : MO} (h : (M a).bind MO.unl = some o) : unlk a M = mset M a o := by unfold unlk; rw [h]
theorem unlk_none {a : Addr} {M : Mp} (h : (M a).bind MO.unl = none) : unlk a M = M := by unfold unlk; rw [h]
theorem finN_unlk {a : Addr} : FinN (unlk a) := fun M b m h hm => by
  by_cases hb : b = a
  · subst hb
    have e1 : unlk b M = M := unlk_none (by rw [h]; rfl)
    have e2 : unlk b (mset M b m) = mset M b m := unlk_none (by rw [mset_same]; exact free_unl hm)
    rw [e1, e2]
    exact ⟨rfl, h⟩
  · have e0 : (mset M b m) a = M a := mset_ne (Ne.symm hb)
    cases e : (M a).bind MO.unl with
    | none =>
      rw [unlk_none e, unlk_none (by rw [e0]; exact e)]
      exact ⟨rfl, h⟩
    | some o =>
      rw [unlk_some e, unlk_some (o := o) (by rw [e0]; exact e)]
      refine ⟨?_, by rw [mset_ne hb]; exact h⟩
      funext c
      by_cases h1 : c = a
      · subst h1; rw [mset_same, mset_ne (Ne.symm hb), mset_same]
      · rw [mset_ne h1]
        by_cases h2 : c = b
        · subst h2; rw [mset_same, mset_same]
        · rw [mset_ne h2, mset_ne h2, mset_ne h1]
theorem unlock0 {a : Addr} {ob : Obj} {u : HO} (hH : H a = some (.frz ob u)) (h1 : ∀ xs, u ≠ .tup xs) (h2 : ∀ xs, u ≠ .lst xs) : TupK0 H (upd H a u) := ⟨fun b xs h => by
  have ne : b ≠ a := by rintro rfl; rw [h] at hH; cases hH
  rw [upd_ne ne]; exact h, fun b o xs h => by
  have ne : b ≠ a := by rintro rfl; rw [h] at hH; cases hH; exact h2 _ rfl
  rw [upd_ne ne]; exact h⟩
/-- what is locked, as it lies -/
theorem lk_at {C : Ct} {a : Addr} {m o : MO} (r : RM C H M) (h : M a = some m) (e : m.unl = some o) : ∃ ob u, H a = some (.frz ob u) ∧ RO C H a o u ∧ (∀ xs, u ≠ .tup xs) ∧ ∀ xs, u ≠ .lst xs := by
  cases m with
  | lck kvs =>
    cases e
    obtain ⟨ob, ks, hH, pd⟩ := r.lck h
    exact ⟨ob, _, hH, ⟨ks, rfl, pd⟩, fun _ z => (nomatch z), fun _ z => (nomatch z)⟩
  | lkT kvs =>
    cases e
    obtain ⟨h1, h2, ob, xs, hH, n, pt⟩ := r.lkT h
    exact ⟨ob, _, hH, ⟨h1, h2, xs, rfl, n, pt⟩, fun ys z => (nomatch (show HO.ext _ = HO.tup ys from z)), fun ys z => (nomatch (show HO.ext _ = HO.lst ys from z))⟩
  | _ => cases e
theorem finUnlk {a : Addr} {Hs : Hp} (hn : ∀ o u, X.H_0 a ≠ some (.frz o u)) (hs : ∀ o u, Hs a ≠ some (.frz o u)) : FinOk ca X (unlk a) Hs := by
  refine ⟨finN_unlk, ?_⟩
  intro M0 pins σ3 M σ H s I k
  cases e : (M a).bind MO.unl with
  | none =>
    rw [unlk_none e]
    exact ⟨H, I, k, TupK.refl.weak, fun b o h n => ⟨h, n⟩⟩
  | some o =>
    obtain ⟨m, em, eo⟩ := Option.bind_eq_some_iff.mp e
    obtain ⟨ob, u, hH, ro, t1, t2⟩ := lk_at I.hp em eo
    have k0 := unlock0 hH t1 t2
    rw [unlk_some e]
    refine ⟨upd H a u, ⟨I.inv.unlock hH hn, I.lo.keep0 k0, fun b m' hb => ?_, fun b o' h1 h2 => ?_, fun b o' u' h1 => ?_⟩, ⟨fun b xs h => k0.1 b xs (k.1 b xs h), fun b o' u' h => ?_⟩, k0, fun b o' h n => ?_⟩
    · by_cases h : b = a
      · subst h
        rw [mset_same] at hb
        cases hb
        exact ⟨_, upd_same, ro.keep0 k0⟩
      · rw [mset_ne h] at hb
        obtain ⟨u', hu, ro'⟩ := I.hp b m' hb
        exact ⟨u', by rw [upd_ne h]; exact hu, ro'.keep0 k0⟩
    · obtain ⟨g1, g2⟩ := I.st.1 b o' h1 h2
      have ne : b ≠ a := by rintro rfl; rw [em] at g2; cases g2
      exact ⟨by rw [upd_ne ne]; exact g1, by rw [mset_ne ne]; exact g2⟩
    · have ne : b ≠ a := by rintro rfl; exact hn _ _ h1
      rw [upd_ne ne]
      exact I.st.2 b o' u' h1
    · have ne : b ≠ a := by rintro rfl; exact hs _ _ h
      rw [upd_ne ne]
      exact k.2 b o' u' h
    · have ne : b ≠ a := by rintro rfl; rw [em] at n; cases n
      exact ⟨by rw [upd_ne ne]; exact h, by rw [mset_ne ne]; exact n⟩
/-! ### arguments, for the hand layer's rules -/
def AV (C : Ct) (H : Hp) (M : Mp) (Q : List D → Mp → Prop) : List V → Hp → Prop := fun vs H' => ∃ ds M', RM C H' M' ∧ Stp H M H' M' ∧ RDs C H' ds vs ∧ Q ds M'
def taOf (ca : Nat → Addr) (X : Cx) (M0 : Mp) (P : Pr) (X3 : Xs) (ies : Es) : TA := fun σ H Q => ∃ σ3 M Q3, (RL (ct X ca) H σ3 σ ∧ RM (ct X ca) H M ∧ Stp X.H_0 M0 H M) ∧ wpEs P (xat X3 σ3) ies σ3 M Q3 ∧ ∀ vs H', AV (ct X ca) H M Q3 vs H' → Q vs H'
theorem pa_of {X3 : Xs} {es : List Expr} {ies : Es} (h : SndEs ca X M0 P X3 es ies) : PA X es (taOf ca X M0 P X3 ies) := by
  refine ⟨fun pos pins s σ H Q I ⟨σ3, M, Q3, ⟨h1, h2, h3⟩, hw, hq⟩ => ?_⟩
  exact thn (h pos pins s σ H σ3 M Q3 ⟨I, h1, h2, h3⟩ hw) fun us s1 ⟨ds, M1, vs, H1, I1, rv, rd, st, q⟩ => ⟨vs, H1, I1.inv, rv, hq vs H1 ⟨ds, M1, I1.hp, st, rd, q⟩⟩

/-! ### the kinds -/
theorem it_lst {a : Addr} {ds : List D} {H0 : Hp} : ItRel (ct X ca) (Itl X.K a) ds (fun M' => M' a = some (.lst ds)) H0 := by
  intro H M k r g
  obtain ⟨xs, hx, rs⟩ := r.lst g
  have hl := rs.length
  refine ⟨fun i d e => ?_, ⟨xs, SqL.of hx, by omega⟩⟩
  obtain ⟨x, e1, r1⟩ := rs.get e
  refine ⟨⟨xs, x, SqL.of hx, e1⟩, fun y H' ⟨e2, q⟩ => ?_⟩
  subst e2
  have e3 := q xs (SqL.of hx)
  rw [e1] at e3; cases e3
  exact ⟨r, Stp.refl, r1⟩
theorem it_kl {a : Addr} {xs : List V} {ds : List D} {H0 : Hp} (hq : SqF X.K H0 a xs) (rs : RDs (ct X ca) H0 ds xs) : ItRel (ct X ca) (Itl X.K a) ds (fun _ => True) H0 := by
  intro H M k r _
  have hq := k.weak.sqf hq
  have rs := rs.keep k
  have hl := rs.length
  refine ⟨fun i d e => ?_, ⟨xs, hq.sq, by omega⟩⟩
  obtain ⟨x, e1, r1⟩ := rs.get e
  refine ⟨⟨xs, x, hq.sq, e1⟩, fun y H' ⟨e2, q⟩ => ?_⟩
  subst e2
  have e3 := q xs hq.sq
  rw [e1] at e3; cases e3
  exact ⟨r, Stp.refl, r1⟩
theorem it_tup {a : Addr} {xs : List V} {ds : List D} {H0 : Hp} (hq0 : ∀ H, TupK H0 H → SqT X.K H a xs) (rs : RDs (ct X ca) H0 ds xs) : ItRel (ct X ca) (Itt X.K a) ds (fun _ => True) H0 := by
  intro H M k r _
  have hq := hq0 H k
  have rs := rs.keep k
  have hl := rs.length
  refine ⟨fun i d e => ?_, ⟨xs, hq, by omega⟩⟩
  obtain ⟨x, e1, r1⟩ := rs.get e
  refine ⟨⟨xs, x, hq, e1⟩, fun y H' ⟨e2, q⟩ => ?_⟩
  subst e2
  have e3 := q xs hq
  rw [e1] at e3; cases e3
  exact ⟨r, Stp.refl, r1⟩
theorem it_str {x : Str} {H0 : Hp} : ItRel (ct X ca) (Its x) (x.cps.toList.map fun c => .str ⟨#[c]⟩) (fun _ => True) H0 := by
  intro H M k r _
  refine ⟨fun i d e => ?_, ?_⟩
  · rw [List.getElem?_map] at e
    cases g : x.cps.toList[i]? with
    | none => rw [g] at e; cases e
    | some c =>
      rw [g] at e
      cases e
      have g' : x.cps[i]? = some c := by simpa using g
      have hlt : i < x.cps.size := by
        obtain ⟨h, _⟩ := Array.getElem?_eq_some_iff.mp g'
        exact h
      refine ⟨hlt, fun y H' ⟨e2, c', e3, e4⟩ => ?_⟩
      subst e2
      rw [g'] at e3; cases e3
      exact ⟨r, Stp.refl, e4⟩
  · show x.cps.size ≤ _
    simp
theorem dRange_get {lo hi : Int} {i : Nat} {d : D} (h : (dRange lo hi)[i]? = some d) : i < (hi - lo).toNat ∧ d = .int (lo + (i : Int)) := by
  unfold dRange at h
  rw [List.getElem?_map] at h
  by_cases hi' : i < (hi - lo).toNat
  · rw [List.getElem?_range hi'] at h
    cases h
    exact ⟨hi', rfl⟩
  · rw [List.getElem?_eq_none (by simp; omega)] at h
    cases h
theorem dRange_length {lo hi : Int} : (dRange lo hi).length = (hi - lo).toNat := by simp [dRange]
theorem it_rng {lo hi : Int} {H0 : Hp} : ItRel (ct X ca) (Itr lo (hi - lo).toNat) (dRange lo hi) (fun _ => True) H0 := by
  intro H M k r _
  refine ⟨fun i d e => ?_, ?_⟩
  · obtain ⟨h1, rfl⟩ := dRange_get e
    refine ⟨h1, fun y H' ⟨e2, e3⟩ => ?_⟩
    subst e2
    exact ⟨r, Stp.refl, e3⟩
  · show _ ≤ _
    rw [dRange_length]
    exact Nat.le_refl _
theorem it_rev {a : Addr} {ds : List D} {n : Nat} {H0 : Hp} (hn : ds.length = n) : ItRel (ct X ca) (Itv X.K a n) ds.reverse (fun M' => M' a = some (.lst ds)) H0 := by
  intro H M k r g
  obtain ⟨xs, hx, rs⟩ := r.lst g
  have hl := rs.length
  refine ⟨fun i d e => ?_, ?_⟩
  · have hlt : i < ds.length := by
      have := (List.getElem?_eq_some_iff.mp e).1
      simpa using this
    rw [List.getElem?_reverse hlt, hn] at e
    obtain ⟨x, e1, r1⟩ := rs.get e
    refine ⟨⟨by omega, xs, x, SqL.of hx, e1⟩, fun y H' ⟨e2, q⟩ => ?_⟩
    subst e2
    have e3 := q xs (SqL.of hx)
    rw [e1] at e3; cases e3
    exact ⟨r, Stp.refl, r1⟩
  · show n ≤ _
    rw [List.length_reverse, hn]
    exact Nat.le_refl _
theorem one_it {tg : Expr} {R : ItR} {H1 : Hp} {M1 : Mp} {s1 : Shared} {h' : Heap} {tk : Nat} {it : Addr} {J : It} {tn : Nat → Heap → Prop} {ds : List D} {G : Mp → Prop} (I1 : I3 (ct X ca) X M0 pins σ3 M1 σ H1 s1)
    (hit : it = s1.heap.objs.size) (hk : ∀ b o, s1.heap.get? b = some o → h'.get? b = some o) (T : Turn X.prog X.w X.K tg J [it] it tn) (t0 : tn 0 h') {fin : Mp → Mp} (st : Stp H M H1 M1) (hr : ItRel (ct X ca) J ds G H1) (q : R ds G M1 fin) (hf : FinOk ca X fin H := by exact finId) :
    It3 ca X M0 tg pins σ3 σ H M R (.ref it) { s1 with heap := h', toks := tk } := by
  refine ⟨it, [it], tn, J, H1, M1, ds, G, fin, rfl, I1.same (I1.inv.kept (t' := tk) hk), T, t0, fun b hb => ?_, st, hr, hf, q⟩
  have e : b = s1.heap.objs.size := by rw [← hit]; simpa using hb
  subst e
  exact I1.inv.fpOk (Nat.le_refl _) (I1.inv.hok.fresh (Nat.le_refl _))
/-! ### dicts -/
def unV : Value → Option V
  | .none => some .non
  | .bool b => some (.bl b)
  | .int i _ => some (.int i)
  | .str x _ => some (.str x)
  | .bytes b _ => some (.byt b)
  | .float b _ => some (.flt b)
  | .ref a => some (.ref a)
  | .type n => some (.ty n)
  | _ => none
theorem unV_of {x : V} {u : Value} (h : L2.RelV x u) : unV u = some x := by
  cases x with
  | non => rw [show u = Value.none from h]; rfl
  | bl b => rw [show u = Value.bool b from h]; rfl
  | int i => obtain ⟨t, rfl⟩ := (show ∃ t, u = Value.int i t from h); rfl
  | str i => obtain ⟨t, rfl⟩ := (show ∃ t, u = Value.str i t from h); rfl
  | byt i => obtain ⟨t, rfl⟩ := (show ∃ t, u = Value.bytes i t from h); rfl
  | flt i => obtain ⟨t, rfl⟩ := (show ∃ t, u = Value.float i t from h); rfl
  | ref a => rw [show u = Value.ref a from h]; rfl
  | ty a => rw [show u = Value.type a from h]; rfl
theorem relV_inj {x y : V} {u : Value} (h : L2.RelV x u) (h' : L2.RelV y u) : x = y := by
  have := unV_of h
  rw [unV_of h'] at this
  exact (Option.some.inj this).symm
/-- the entries of a dict, by what they stand for -/
def EntRel (C : Ct) (H : Hp) (kvs : List (D × D)) (es : Array DictEntry) : Prop := es.size = kvs.length ∧ ∀ (i : Nat) (p : D × D), kvs[i]? = some p → ∃ en x1 x2, es[i]? = some en ∧ RelV x1 en.key ∧ RelV x2 en.val ∧ RD C H p.1 x1 ∧ RD C H p.2 x2
theorem EntRel.keep {C : Ct} {H H' : Hp} {kvs : List (D × D)} {es : Array DictEntry} (k : TupK H H') (r : EntRel C H kvs es) : EntRel C H' kvs es := ⟨r.1, fun i p e => by
  obtain ⟨en, x1, x2, a, b, c, d, f⟩ := r.2 i p e
  exact ⟨en, x1, x2, a, b, c, d.keep k, f.keep k⟩⟩
theorem EntRel.all {C : Ct} {H : Hp} {kvs : List (D × D)} {es : Array DictEntry} (r : EntRel C H kvs es) : ∀ (i : Nat) (en : DictEntry), es[i]? = some en → ∃ x1 x2, RelV x1 en.key ∧ RelV x2 en.val := fun i en e => by
  have hlt := (Array.getElem?_eq_some_iff.mp e).1
  obtain ⟨p, hp⟩ : ∃ p, kvs[i]? = some p := ⟨kvs[i]'(by rw [← r.1]; exact hlt), List.getElem?_eq_getElem _⟩
  obtain ⟨en', x1, x2, a, b, c, _⟩ := r.2 i p hp
  rw [e] at a
  cases a
  exact ⟨x1, x2, b, c⟩
def IKe (d : Addr) (o : Obj) (es : Array DictEntry) : It := ⟨fun i H => (∃ u, H d = some (.frz o u)) ∧ i < es.size, fun i H x H' => H' = H ∧ ∃ en, es[i]? = some en ∧ RelV x en.key, fun i H => (∃ u, H d = some (.frz o u)) ∧ es.size ≤ i⟩
def IVa (d : Addr) (o : Obj) (es : Array DictEntry) : It := ⟨fun i H => (∃ u, H d = some (.frz o u)) ∧ i < es.size, fun i H x H' => H' = H ∧ ∃ en, es[i]? = some en ∧ RelV x en.val, fun i H => (∃ u, H d = some (.frz o u)) ∧ es.size ≤ i⟩
def IIt (d : Addr) (o : Obj) (es : Array DictEntry) : It := ⟨fun i H => (∃ u, H d = some (.frz o u)) ∧ i < es.size, fun i H x H' => ∃ T en x1 x2, es[i]? = some en ∧ RelV x1 en.key ∧ RelV x2 en.val ∧ x = .ref T ∧ H T = none ∧ H' = upd H T (.tup [x1, x2]), fun i H => (∃ u, H d = some (.frz o u)) ∧ es.size ≤ i⟩
theorem frz_at {Y : Cx} {pins : List (Addr × Obj)} {σ : L2.St} {H : Hp} {s : Shared} {d : Addr} {o : Obj} (I : Inv Y pins σ H s) (h : ∃ u, H d = some (.frz o u)) : s.heap.get? d = some o := by
  obtain ⟨u, h⟩ := h
  exact (I.hok d _ h).1
section
variable {P : Program} {w : World} {K : PySem.W.Frag} {tg : Expr} {d : Addr} {o : Obj} {es : Array DictEntry} {ep : Nat}
theorem turn_K (it : Addr) (hx : o.ExactDict) (hod : o.data = .dict es ep) (hv : ∀ (i : Nat) (en : DictEntry), es[i]? = some en → ∃ x1 x2, RelV x1 en.key ∧ RelV x2 en.val) : Turn P w K tg (IKe d o es) [it] it (fun i h => h.IsKeyIter it d i es.size ep) where
  mem := by simp
  obj := fun i h st b hb => by
    have e : b = it := by simpa using hb
    subst e
    obtain ⟨oi, e, c, dd⟩ := st
    exact ⟨oi, e, fun v z => by rw [dd] at z; cases z⟩
  keep := fun i h h' st k => st.at fun oi e => k it (by simp) oi e
  item := by
    intro X hP hw hK hc i pins s σ H E I hf st hg
    subst hP hw hK
    obtain ⟨hd, hi⟩ := hg
    obtain ⟨f0, f1, f2, f3, f4, f5⟩ := hf it (by simp)
    have hgd := frz_at I hd
    have hen : es[i]? = some es[i] := Array.getElem?_eq_getElem hi
    obtain ⟨x1, x2, r1, r2⟩ := hv i _ hen
    refine next_key_item st hgd hod rfl hen fun h' st' sb => ?_
    have I1 : Inv X pins σ H { s with heap := h' } := I.turned (t' := s.toks) (fun b ob hb e => (sb.2 b hb).trans e) f0 f1 f3 f4 f5
    obtain ⟨oi, e, c, dd⟩ := id st'
    exact ⟨es[i].key, rfl, go_of (s := { s with heap := h' }) e c dd (by decide) ⟨x1, H, I1, r1, ⟨rfl, _, hen, r1⟩, st', fun b hb => (hf b hb).1⟩⟩
  done := by
    intro X hP hw hK hc i pins s σ H E I hf st hg
    subst hP hw hK
    obtain ⟨hd, hi⟩ := hg
    obtain ⟨f0, f1, f2, f3, f4, f5⟩ := hf it (by simp)
    exact next_key_end (I.ok.hd hc) st (frz_at I hd) hod rfl hi fun h' eb => ⟨rfl, I.turned (t' := s.toks) (fun b ob hb e => eb b ob hb e) f0 f1 f3 f4 f5⟩
  self := fun A i s Q E st h => by
    refine wpAny_pyIter_slot st.typeIs PySem.F.slot_dict_keyiterator_iter (wpAny_call_entry PySem.F.slot_dict_keyiterator_iter st.typeIs PySem.F.entry_dict_keyiterator_iter ?_ (PySem.F.args_dict_keyiterator_iter_1 _))
    show wpAny _ _ (ret (.ref it)) _ _ s
    exact wpAny_pure ⟨_, rfl, "dict_keyiterator", _, st.typeIs, PySem.F.slot_dict_keyiterator_next.lookup, h⟩
theorem turn_V (it : Addr) (hx : o.ExactDict) (hod : o.data = .dict es ep) (hv : ∀ (i : Nat) (en : DictEntry), es[i]? = some en → ∃ x1 x2, RelV x1 en.key ∧ RelV x2 en.val) : Turn P w K tg (IVa d o es) [it] it (fun i h => h.IsValIter it d i es.size ep) where
  mem := by simp
  obj := fun i h st b hb => by
    have e : b = it := by simpa using hb
    subst e
    obtain ⟨oi, e, c, dd⟩ := st
    exact ⟨oi, e, fun v z => by rw [dd] at z; cases z⟩
  keep := fun i h h' st k => st.at fun oi e => k it (by simp) oi e
  item := by
    intro X hP hw hK hc i pins s σ H E I hf st hg
    subst hP hw hK
    obtain ⟨hd, hi⟩ := hg
    obtain ⟨f0, f1, f2, f3, f4, f5⟩ := hf it (by simp)
    have hgd := frz_at I hd
    have hen : es[i]? = some es[i] := Array.getElem?_eq_getElem hi
    obtain ⟨x1, x2, r1, r2⟩ := hv i _ hen
    refine PySem.wpAny_pyNext_values_item_raw st ⟨o, hgd, hx, hod⟩ hi fun h' st' sb => ?_
    have I1 : Inv X pins σ H { s with heap := h' } := I.turned (t' := s.toks) (fun b ob hb e => (sb.2 b hb).trans e) f0 f1 f3 f4 f5
    obtain ⟨oi, e, c, dd⟩ := id st'
    exact ⟨es[i].val, rfl, go_of (s := { s with heap := h' }) e c dd (by decide) ⟨x2, H, I1, r2, ⟨rfl, _, hen, r2⟩, st', fun b hb => (hf b hb).1⟩⟩
  done := by
    intro X hP hw hK hc i pins s σ H E I hf st hg
    subst hP hw hK
    obtain ⟨hd, hi⟩ := hg
    obtain ⟨f0, f1, f2, f3, f4, f5⟩ := hf it (by simp)
    exact PySem.wpAny_pyNext_values_end_raw (I.ok.hd hc) st ⟨o, frz_at I hd, hx, hod⟩ hi fun h' eb => ⟨rfl, I.turned (t' := s.toks) (fun b ob hb e => eb b ob hb e) f0 f1 f3 f4 f5⟩
  self := fun A i s Q E st h => wpAny_pyIter_valiter st h
theorem turn_I {elts : List Expr} {kk : Nat} {tpos : Pos} (it : Addr) (hx : o.ExactDict) (hod : o.data = .dict es ep) (hv : ∀ (i : Nat) (en : DictEntry), es[i]? = some en → ∃ x1 x2, RelV x1 en.key ∧ RelV x2 en.val) :
    Turn P w K (.Tuple elts kk tpos) (IIt d o es) [it] it (fun i h => ∃ ok ov, IsItemIter h it d i es.size ep ok ov) where
  mem := by simp
  obj := fun i h st b hb => by
    have e : b = it := by simpa using hb
    subst e
    obtain ⟨ok, ov, e⟩ := st
    exact ⟨_, e, fun v z => nomatch z⟩
  keep := fun i h h' st k => let ⟨ok, ov, e⟩ := st; ⟨ok, ov, k it (by simp) _ e⟩
  item := by
    intro X hP hw hK hc i pins s σ H E I hf st hg
    subst hP hw hK
    obtain ⟨hd, hi⟩ := hg
    have hgd := frz_at I hd
    have hen : es[i]? = some es[i] := Array.getElem?_eq_getElem hi
    obtain ⟨x1, x2, r1, r2⟩ := hv i _ hen
    obtain ⟨ok, ov, he⟩ := st
    have hlt : it < s.heap.objs.size := Heap.lt_size he
    refine PySem.wpAny_pyNext_items_item_raw he ⟨o, hgd, hx, hod⟩ hi fun h' ho hT hz hk => ?_
    refine ⟨_, rfl, wpAny_letOwnedTupleGo_items (s := { s with heap := h' }) ho fun h'' he' sb => ?_⟩
    have hT2 : h''.get? s.heap.objs.size = some { cls := .type "tuple", data := .seq #[es[i].key, es[i].val] } := (sb.2 _ (Nat.ne_of_gt hlt)).trans hT
    have new : ObjOk X.prog X.w (upd H s.heap.objs.size (.tup [x1, x2])) h'' s.heap.objs.size (.tup [x1, x2]) :=
      ⟨by show 2 ≤ sizeLine; decide, [es[i].key, es[i].val], .cons r1 (.cons r2 .nil), ⟨_, hT2, rfl, _, rfl⟩⟩
    have I1 : Inv X pins σ (upd H s.heap.objs.size (.tup [x1, x2])) { s with heap := h'' } :=
      I.turnedNew (t' := s.toks) (ch := [it]) (fun b ob hb e => (sb.2 b (by simpa using hb)).trans (hk b ob (by simpa using hb) e)) hf (Nat.le_refl _) new
    refine ⟨.ref s.heap.objs.size, _, I1, rfl, ⟨_, _, x1, x2, hen, r1, r2, rfl, I.hok.fresh (Nat.le_refl _), rfl⟩, ⟨es[i].key, es[i].val, he'⟩, fun b hb => ?_⟩
    have e : b = it := by simpa using hb
    rw [e, upd_ne (Nat.ne_of_lt hlt)]
    exact (hf it (by simp)).1
  done := by
    intro X hP hw hK hc i pins s σ H E I hf st hg
    subst hP hw hK
    obtain ⟨hd, hi⟩ := hg
    obtain ⟨f0, f1, f2, f3, f4, f5⟩ := hf it (by simp)
    obtain ⟨ok, ov, he⟩ := st
    exact PySem.wpAny_pyNext_items_end_raw (I.ok.hd hc) he ⟨o, frz_at I hd, hx, hod⟩ hi fun h' eb => ⟨rfl, I.turned (t' := s.toks) (fun b ob hb e => eb b ob hb e) f0 f1 f3 f4 f5⟩
  self := fun A i s Q E st h => let ⟨_, _, e⟩ := st; PySem.W.kcp_self e h
end
theorem it_K {a : Addr} {kvs : List (D × D)} {od : Obj} {es : Array DictEntry} {G : Mp → Prop} {H0 : Hp} {u : HO} (h0 : H0 a = some (.frz od u)) (er : EntRel (ct X ca) H0 kvs es) : ItRel (ct X ca) (IKe a od es) (kvs.map (·.1)) G H0 := by
  intro H M k r _
  have h1 := k.2 a od _ h0
  refine ⟨fun i d e => ?_, ⟨⟨u, h1⟩, by rw [List.length_map, er.1]; exact Nat.le_refl _⟩⟩
  rw [List.getElem?_map] at e
  cases q : kvs[i]? with
  | none => rw [q] at e; cases e
  | some p =>
    rw [q] at e
    cases e
    obtain ⟨en, x1, x2, e1, e2, e3, e4, e5⟩ := (er.keep k).2 i p q
    refine ⟨⟨⟨u, h1⟩, (Array.getElem?_eq_some_iff.mp e1).1⟩, fun x H' ⟨g1, en', g2, g3⟩ => ?_⟩
    subst g1
    rw [e1] at g2
    cases g2
    rw [relV_inj g3 e2]
    exact ⟨r, Stp.refl, e4⟩
theorem it_V {a : Addr} {kvs : List (D × D)} {od : Obj} {es : Array DictEntry} {G : Mp → Prop} {H0 : Hp} {u : HO} (h0 : H0 a = some (.frz od u)) (er : EntRel (ct X ca) H0 kvs es) : ItRel (ct X ca) (IVa a od es) (kvs.map (·.2)) G H0 := by
  intro H M k r _
  have h1 := k.2 a od _ h0
  refine ⟨fun i d e => ?_, ⟨⟨u, h1⟩, by rw [List.length_map, er.1]; exact Nat.le_refl _⟩⟩
  rw [List.getElem?_map] at e
  cases q : kvs[i]? with
  | none => rw [q] at e; cases e
  | some p =>
    rw [q] at e
    cases e
    obtain ⟨en, x1, x2, e1, e2, e3, e4, e5⟩ := (er.keep k).2 i p q
    refine ⟨⟨⟨u, h1⟩, (Array.getElem?_eq_some_iff.mp e1).1⟩, fun x H' ⟨g1, en', g2, g3⟩ => ?_⟩
    subst g1
    rw [e1] at g2
    cases g2
    rw [relV_inj g3 e3]
    exact ⟨r, Stp.refl, e5⟩
theorem it_I {a : Addr} {kvs : List (D × D)} {od : Obj} {es : Array DictEntry} {G : Mp → Prop} {H0 : Hp} {u : HO} (h0 : H0 a = some (.frz od u)) (er : EntRel (ct X ca) H0 kvs es) : ItRel (ct X ca) (IIt a od es) (kvs.map fun p => .tup [p.1, p.2]) G H0 := by
  intro H M k r _
  have h1 := k.2 a od _ h0
  refine ⟨fun i d e => ?_, ⟨⟨u, h1⟩, by rw [List.length_map, er.1]; exact Nat.le_refl _⟩⟩
  rw [List.getElem?_map] at e
  cases q : kvs[i]? with
  | none => rw [q] at e; cases e
  | some p =>
    rw [q] at e
    cases e
    obtain ⟨en, x1, x2, e1, e2, e3, e4, e5⟩ := (er.keep k).2 i p q
    refine ⟨⟨⟨u, h1⟩, (Array.getElem?_eq_some_iff.mp e1).1⟩, fun x H' ⟨T, en', y1, y2, g2, g3, g4, g5, g6, g7⟩ => ?_⟩
    subst g5 g7
    rw [e1] at g2
    cases g2
    rw [relV_inj g3 e2, relV_inj g4 e3]
    exact ⟨r.new0 g6, upd_stp g6, T, [x1, x2], rfl, .inl upd_same, _, _, rfl, e4.keep (tupK_new g6), _, _, rfl, e5.keep (tupK_new g6), rfl⟩
/-- a dict's entries -/
theorem I3.ents (I : I3 (ct X ca) X M0 pins σ3 M σ H s) {a : Addr} {kvs : List (D × D)} (h : M a = some (.dct kvs) ∨ M a = some (.dcT kvs)) : (a == sysModules) = false ∧ kvs.length ≤ sizeLine ∧ ∃ o es ep, s.heap.get? a = some o ∧ o.ExactDict ∧ o.data = .dict es ep ∧ EntRel (ct X ca) H kvs es := by
  rcases h with h | h
  · obtain ⟨ks, hx, pd⟩ := I.hp.dct h
    obtain ⟨z, hsys, vs, kv, o, es, ep, ho, hex, hd, _, pr, _⟩ := dk_rd I.inv.hok (.inl hx)
    obtain ⟨v1, v2⟩ := entries_vals pr kv
    refine ⟨hsys, by rw [Paired.length pd]; exact z, o, es, ep, ho, hex, hd, ?_, fun i p e => ?_⟩
    · have l1 := v1.length
      rw [List.length_map, List.length_map] at l1
      rw [Paired.length pd]
      have l2 : es.toList.length = es.size := Array.length_toList
      omega
    · obtain ⟨q, hq, kr, rv⟩ := pd_get pd e
      obtain ⟨u1, h1, r1⟩ := v1.get (i := i) (x := kV q.1) (by rw [List.getElem?_map, hq]; rfl)
      obtain ⟨u2, h2, r2⟩ := v2.get (i := i) (x := q.2) (by rw [List.getElem?_map, hq]; rfl)
      rw [List.getElem?_map] at h1 h2
      cases hen : es.toList[i]? with
      | none => rw [hen] at h1; cases h1
      | some en =>
        rw [hen] at h1 h2
        cases h1
        cases h2
        exact ⟨en, kV q.1, q.2, by rw [← Array.getElem?_toList]; exact hen, r1, r2, rd_key kr, rv⟩
  · obtain ⟨hs, hz, xs, us, hH, n, pt, xu, o, es, ep, ho, hx2, hd, he, _⟩ := I.dtAt (.inl h)
    refine ⟨hs, hz, o, es, ep, ho, hx2, hd, ?_, fun i p e => ?_⟩
    · rw [size_of_entries he, pt.len]
      exact (Paired.length xu).symm
    · obtain ⟨q, hq, r0, r1, r2, r3⟩ := paired_get pt e
      obtain ⟨b, hb, g1, g2, g3⟩ := paired_get xu hq
      refine ⟨entryOfKey (nestedKind X.prog X.w) b, .ref q.2.1, q.2.2, by rw [entry_at he i, hb]; rfl, ?_, g3, r2, r3⟩
      show Value.ref b.2.1 = Value.ref q.2.1
      rw [g2]
/-- the lock -/
def lkOf (T : Bool) (kvs : List (D × D)) : MO := if T = true then .lkT kvs else .lck kvs
def dkOf (T : Bool) (kvs : List (D × D)) : MO := if T = true then .dcT kvs else .dct kvs
theorem lock_at {T : Bool} {a : Addr} {kvs : List (D × D)} (I : I3 (ct X ca) X M0 pins σ3 M σ H s) (g : M a = some (dkOf T kvs)) : (a == sysModules) = false ∧ ∃ o es ep u, s.heap.get? a = some o ∧ o.ExactDict ∧ o.data = .dict es ep ∧
    I3 (ct X ca) X M0 pins σ3 (mset M a (lkOf T kvs)) σ (upd H a (.frz o u)) s ∧ Stp H M (upd H a (.frz o u)) (mset M a (lkOf T kvs)) ∧ EntRel (ct X ca) (upd H a (.frz o u)) kvs es ∧ ∀ o u, H a ≠ some (.frz o u) := by
  have g' : M a = some (.dct kvs) ∨ M a = some (.dcT kvs) := by
    cases T with
    | false => exact .inl g
    | true => exact .inr g
  obtain ⟨hs, hz, o, es, ep, ho, hx, hd, er⟩ := I.ents g'
  obtain ⟨u, hu, ro⟩ := I.hp a _ g
  have mu : Mut (some u) ∧ ∀ o' u', u ≠ .frz o' u' := by
    cases T with
    | false => obtain ⟨ks, e, _⟩ : RDct (ct X ca) H kvs u := ro; subst e; exact ⟨True.intro, fun _ _ z => nomatch z⟩
    | true => obtain ⟨_, _, xs, e, _⟩ : RDT (ct X ca) H a kvs u := ro; subst e; exact ⟨True.intro, fun o' u' z => nomatch (show HO.ext _ = HO.frz o' u' from z)⟩
  obtain ⟨od, J⟩ := I.inv.lock hu mu.1
  have eo : od = o := by
    have := frz_at J ⟨u, upd_same⟩
    rw [ho] at this
    exact (Option.some.inj this).symm
  subst eo
  have fr : (dkOf T kvs).free := by cases T <;> exact True.intro
  have kw : TupK H (upd H a (.frz od u)) := I.hp.tupKw g fr
  have st : Stp H M (upd H a (.frz od u)) (mset M a (lkOf T kvs)) := write_stp I.hp g fr
  have ro2 : RO (ct X ca) (upd H a (.frz od u)) a (lkOf T kvs) (.frz od u) := by
    cases T with
    | false => exact RDct.keep0 kw.weak (show RDct (ct X ca) H kvs u from ro)
    | true => exact RDT.keep0 kw.weak (show RDT (ct X ca) H a kvs u from ro)
  exact ⟨hs, od, es, ep, u, ho, hx, hd, I.to J (I.hp.write g ro2 fr) st, st, er.keep kw, fun o' u' z => by rw [hu] at z; cases z; exact mu.2 _ _ rfl⟩
theorem iter_dict {T : Bool} {tg : Expr} {R : ItR} {a : Addr} {kvs : List (D × D)} {H1 : Hp} {M1 : Mp} {s1 : Shared} (I1 : I3 (ct X ca) X M0 pins σ3 M1 σ H1 s1) (st : Stp H M H1 M1) (g : M1 a = some (dkOf T kvs)) (h : R (kvs.map (·.1)) (fun M' => M' a = some (lkOf T kvs)) (mset M1 a (lkOf T kvs)) (unlk a)) :
    wpAny (model X.prog X.w) X.A (pyIter (.ref a)) (It3 ca X M0 tg pins σ3 σ H M R) X.xe s1 := by
  obtain ⟨hs, o, es, ep, u, ho, hx, hd, I2, st2, er, nf⟩ := lock_at I1 g
  have n1 : ∀ o u, X.H_0 a ≠ some (.frz o u) := fun o u z => nf o u (I1.st.2 a o u z)
  have n2 : ∀ o u, H a ≠ some (.frz o u) := fun o u z => nf o u (st.2 a o u z)
  exact iter_keys hs ho hx hd (one_it (tk := s1.toks) I2 rfl (fun b o e => Heap.get?_push_of_some _ e) (turn_K _ hx hd er.all) ⟨_, Heap.get?_push_size _ rfl, rfl, rfl⟩ (st.trans st2) (it_K upd_same er) h (finUnlk n1 n2))
/-- from a value that has come -/
theorem iter_plain {tg : Expr} {R : ItR} {x : D} {v : V} {u : Value} {H1 : Hp} {M1 : Mp} {s1 : Shared} (I1 : I3 (ct X ca) X M0 pins σ3 M1 σ H1 s1) (rv : RelV v u) (rd : RD (ct X ca) H1 x v) (st : Stp H M H1 M1) (h : wpIt .plain [x] M1 R) :
    wpAny (model X.prog X.w) X.A (pyIter u) (It3 ca X M0 tg pins σ3 σ H M R) X.xe s1 := by
  cases x with
  | tup xs =>
    obtain ⟨a, ys, rfl, hq, rs⟩ := rd
    cases rv
    obtain ⟨its, rv, p, hz⟩ := I1.inv.tuple hq.sq
    exact wpAny_pyIter_tuple (show s1.heap.IsTuple a its.toArray from p) (one_it (tk := s1.toks) I1 rfl (fun b o e => Heap.get?_push_of_some _ e) (turn_tuple a _) ⟨_, Heap.get?_push_size _ rfl, rfl, rfl⟩ st (it_tup (fun H k => (k.weak.squ hq).sq) rs) h)
  | kt xs =>
    obtain ⟨a, ys, rfl, hq, rs⟩ := rd
    cases rv
    obtain ⟨its, rv, p, hz⟩ := I1.inv.tuple (sqk hq)
    exact wpAny_pyIter_tuple (show s1.heap.IsTuple a its.toArray from p) (one_it (tk := s1.toks) I1 rfl (fun b o e => Heap.get?_push_of_some _ e) (turn_tuple a _) ⟨_, Heap.get?_push_size _ rfl, rfl, rfl⟩ st (it_tup (fun H k => sqk hq) rs) h)
  | kl xs =>
    obtain ⟨a, ys, rfl, hq, rs⟩ := rd
    cases rv
    obtain ⟨its, rv, p, hz⟩ := I1.inv.list hq.sq
    exact wpAny_pyIter_list p.isList (one_it (tk := s1.toks) I1 rfl (fun b o e => Heap.get?_push_of_some _ e) (turn_list a _) ⟨_, Heap.get?_push_size _ rfl, rfl, rfl⟩ st (it_kl hq rs) h)
  | str x =>
    have e : v = .str x := rd
    subst e
    obtain ⟨t, rfl⟩ := rv
    cases ha : x.cps.all (· < 128)
    · exact wpAny_pyIter_wide ha (one_it (tk := s1.toks) I1 rfl (fun b o e => Heap.get?_push_of_some _ e) (turn_str _ x t "str_iterator" (.inr rfl)) ⟨_, Heap.get?_push_size _ rfl, rfl, rfl⟩ st it_str h.2)
    · exact wpAny_pyIter_ascii ha (one_it (tk := s1.toks) I1 rfl (fun b o e => Heap.get?_push_of_some _ e) (turn_str _ x t "str_ascii_iterator" (.inl rfl)) ⟨_, Heap.get?_push_size _ rfl, rfl, rfl⟩ st it_str h.2)
  | ref a =>
    have e : v = .ref a := rd
    subst e
    cases rv
    cases g : M1 a with
    | none => simp only [wpIt, g] at h
    | some o =>
      cases o with
      | lst ds =>
        simp only [wpIt, g] at h
        obtain ⟨xs, hx, rs⟩ := I1.hp.lst g
        obtain ⟨its, rv, p, hz⟩ := I1.inv.list (SqL.of hx)
        exact wpAny_pyIter_list p.isList (one_it (tk := s1.toks) I1 rfl (fun b o e => Heap.get?_push_of_some _ e) (turn_list a _) ⟨_, Heap.get?_push_size _ rfl, rfl, rfl⟩ st it_lst h)
      | dct kvs =>
        simp only [wpIt, g] at h
        exact iter_dict (T := false) I1 st g h
      | dcT kvs =>
        simp only [wpIt, g] at h
        exact iter_dict (T := true) I1 st g h
      | _ => simp only [wpIt, g] at h
  | _ => exact h.elim
theorem i_plain {tg e : Expr} {ie : E} (he : SndEx ca X M0 P e ie) : SndI ca X M0 P tg e .plain (.cons ie .nil) := by
  intro X3 tk pins s σ H σ3 M R I hw
  exact thn (he X3 tk pins s σ H σ3 M _ I hw) fun v s1 ⟨x, M1, xv, H1, I1, rv, rd, st, q⟩ => iter_plain I1 rv rd st q
theorem it3_of {tg : Expr} {R : ItR} {itv : Value} {s2 : Shared} (I : I3 (ct X ca) X M0 pins σ3 M σ H s)
    (h : PIE X pins σ tg (fun J H' => ∃ M' ds G fin, RM (ct X ca) H' M' ∧ Stp H M H' M' ∧ ItRel (ct X ca) J ds G H' ∧ FinOk ca X fin H ∧ R ds G M' fin) itv s2) : It3 ca X M0 tg pins σ3 σ H M R itv s2 := by
  obtain ⟨it, fp, tn, J, H', e, J', T, t0, f, M', ds, G, fin, r, st, hr, hf, q⟩ := h
  exact ⟨it, fp, tn, J, H', M', ds, G, fin, e, I.to J' r st, T, t0, f, st, hr, hf, q⟩
theorem one_arg {Q : List D → Mp → Prop} {X3 : Xp} {ie : E} (h : wpEs P X3 (.cons ie .nil) σ3 M Q) : wpEs P X3 (.cons ie .nil) σ3 M fun ds M' => ∃ d, ds = [d] ∧ Q ds M' := by
  have e : (fun (d : D) (M' : Mp) => ∃ d', [d] = [d'] ∧ Q [d] M') = fun d M' => Q [d] M' := by
    funext d M'
    exact propext ⟨fun ⟨_, _, q⟩ => q, fun q => ⟨d, rfl, q⟩⟩
  show wpE P X3 ie σ3 M fun (d : D) (M' : Mp) => ∃ d', [d] = [d'] ∧ Q [d] M'
  rw [e]
  exact h
theorem two_args {Q : List D → Mp → Prop} {X3 : Xp} {ie ie2 : E} (h : wpEs P X3 (.cons ie (.cons ie2 .nil)) σ3 M Q) : wpEs P X3 (.cons ie (.cons ie2 .nil)) σ3 M fun ds M' => (∃ d d', ds = [d, d']) ∧ Q ds M' := by
  have e : ∀ d : D, (fun (d' : D) (M' : Mp) => (∃ c c', [d, d'] = [c, c']) ∧ Q [d, d'] M') = fun d' M' => Q [d, d'] M' := by
    intro d
    funext d' M'
    exact propext ⟨fun ⟨_, q⟩ => q, fun q => ⟨⟨d, d', rfl⟩, q⟩⟩
  show wpE P X3 ie σ3 M fun (d : D) (M1 : Mp) => wpE P X3 ie2 σ3 M1 fun (d' : D) (M' : Mp) => (∃ c c', [d, d'] = [c, c']) ∧ Q [d, d'] M'
  have e2 : (fun (d : D) (M1 : Mp) => wpE P X3 ie2 σ3 M1 fun (d' : D) (M' : Mp) => (∃ c c', [d, d'] = [c, c']) ∧ Q [d, d'] M') = fun d M1 => wpE P X3 ie2 σ3 M1 fun d' M' => Q [d, d'] M' := by
    funext d M1
    rw [e d]
  rw [e2]
  exact h
theorem i_range1 {tg a : Expr} {ie : E} {p pos : Pos} (hg : Gl X "range") (hm : X.mg "range" = none) (hn : notStar a = true) (ha : SndEsx ca X M0 P [a] (.cons ie .nil)) : SndI ca X M0 P tg (.Call (.Name "range" p) [a] [] pos) .range (.cons ie .nil) := by
  intro X3 tk pins s σ H σ3 M R I hw
  have hs : starEach [a] X.env = [(false, eval a X.env)] := by rw [star_ok hn]; rfl
  refine thn ((pi_range1 hg hm (pa_of (ha X3 tk)) hs).run pins s σ H _ I.inv ⟨σ3, M, _, ⟨I.lo, I.hp, I.st⟩, one_arg hw, fun vs H' ⟨ds, M', r, st, rd, ⟨d, e, q⟩⟩ => ?_⟩) fun v s1 h1 => thn h1 fun itv s2 h2 => it3_of I h2
  subst e
  obtain ⟨y, l, rfl, r1, r2⟩ := rd
  rw [show l = [] from r2]
  cases d with
  | int n =>
    rw [show y = .int n from r1]
    obtain ⟨⟨q1, q2⟩, q⟩ := q
    refine ⟨n, rfl, q1, q2, M', dRange 0 n, fun _ => True, id, r, st, ?_, finId, q⟩
    have := it_rng (ca := ca) (X := X) (lo := 0) (hi := n) (H0 := H')
    rwa [Int.sub_zero] at this
  | _ => exact q.elim
theorem i_range2 {tg a b : Expr} {ie ie2 : E} {p pos : Pos} (hg : Gl X "range") (hm : X.mg "range" = none) (hn : notStar a = true) (hn2 : notStar b = true) (ha : SndEsx ca X M0 P [a, b] (.cons ie (.cons ie2 .nil))) : SndI ca X M0 P tg (.Call (.Name "range" p) [a, b] [] pos) .range (.cons ie (.cons ie2 .nil)) := by
  intro X3 tk pins s σ H σ3 M R I hw
  have hs2 : starEach [b] X.env = [(false, eval b X.env)] := by rw [star_ok hn2]; rfl
  have hs : starEach [a, b] X.env = [(false, eval a X.env), (false, eval b X.env)] := by rw [star_ok hn, hs2]
  refine thn ((pi_range2 hg hm (pa_of (ha X3 tk)) hs hs2).run pins s σ H _ I.inv ⟨σ3, M, _, ⟨I.lo, I.hp, I.st⟩, two_args hw, fun vs H' ⟨ds, M', r, st, rd, ⟨d, d', e⟩, q⟩ => ?_⟩) fun v s1 h1 => thn h1 fun itv s2 h2 => it3_of I h2
  subst e
  obtain ⟨y, l, rfl, r1, y2, l2, rfl, r2, r3⟩ := rd
  rw [show l2 = [] from r3]
  cases d with
  | int n => cases d' with
    | int m =>
      rw [show y = .int n from r1, show y2 = .int m from r2]
      obtain ⟨⟨⟨q1, q2⟩, q3, q4⟩, q⟩ := q
      exact ⟨n, m, rfl, ⟨q1, q2, q3, q4⟩, M', dRange n m, fun _ => True, id, r, st, it_rng, finId, q⟩
    | _ => exact q.elim
  | _ => exact q.elim
theorem i_rev {tg a : Expr} {ie : E} {p pos : Pos} (hg : Gl X "reversed") (hm : X.mg "reversed" = none) (hn : notStar a = true) (ha : SndEsx ca X M0 P [a] (.cons ie .nil)) : SndI ca X M0 P tg (.Call (.Name "reversed" p) [a] [] pos) .reversed (.cons ie .nil) := by
  intro X3 tk pins s σ H σ3 M R I hw
  have hs : starEach [a] X.env = [(false, eval a X.env)] := by rw [star_ok hn]; rfl
  refine thn ((pi_reversed hg hm (pa_of (ha X3 tk)) hs).run pins s σ H _ I.inv ⟨σ3, M, _, ⟨I.lo, I.hp, I.st⟩, one_arg hw, fun vs H' ⟨ds, M', r, st, rd, ⟨d, e, q⟩⟩ => ?_⟩) fun v s1 h1 => thn h1 fun itv s2 h2 => it3_of I h2
  subst e
  obtain ⟨y, l, rfl, r1, r2⟩ := rd
  rw [show l = [] from r2]
  cases d with
  | ref a =>
    rw [show y = .ref a from r1]
    cases g : M' a with
    | none => simp only [wpIt, g] at q
    | some o =>
      cases o with
      | lst ds =>
        simp only [wpIt, g] at q
        obtain ⟨xs, hx, rs⟩ := r.lst g
        exact ⟨a, xs, rfl, SqL.of hx, M', ds.reverse, fun M' => M' a = some (.lst ds), id, r, st, it_rev rs.length, finId, q⟩
      | _ => simp only [wpIt, g] at q
  | _ => exact q.elim

theorem i_items {o : Expr} {ap cp tpos : Pos} {elts : List Expr} {kk : Nat} {io : E} (hn : noSuper o = true) (hl : (ap.endLine == cp.line) = true) (ho : SndEx ca X M0 P o io) : SndI ca X M0 P (.Tuple elts kk tpos) (.Call (.Attribute o "items" ap) [] [] cp) .items (.cons io .nil) := by
  intro X3 tk pins s σ H σ3 M R I hw
  refine wpAny_Call_method (T := "dict") (id := "dict.items") (noSuper_ok hn) rfl hl PySem.F.plainAttrs_dict PySem.F.slot_dict_items PySem.F.type_dict_items (thn (ho X3 tk pins s σ H σ3 M _ I hw) fun u s1 ⟨x, M1, v, H1, I1, rv, rd, st, q⟩ => ?_)
  obtain ⟨T, a, kvs, ex, g, h⟩ : ∃ (T : Bool) (a : Addr) (kvs : List (D × D)), x = .ref a ∧ M1 a = some (dkOf T kvs) ∧ R (kvs.map fun p => .tup [p.1, p.2]) (fun M' => M' a = some (lkOf T kvs)) (mset M1 a (lkOf T kvs)) (unlk a) := by
    cases x with
    | ref a =>
      have q : wpIt .items [.ref a] M1 R := q
      cases g : M1 a with
      | none => simp only [wpIt, g] at q
      | some o =>
        cases o with
        | dct kvs =>
          simp only [wpIt, g] at q
          exact ⟨false, a, kvs, rfl, g, q⟩
        | dcT kvs =>
          simp only [wpIt, g] at q
          exact ⟨true, a, kvs, rfl, g, q⟩
        | _ => simp only [wpIt, g] at q
    | _ => exact q.elim
  subst ex
  have e : v = .ref a := rd
  subst e
  cases rv
  obtain ⟨hs, ob, es, ep, u, hob, hx, hd, I2, st2, er, nf⟩ := lock_at I1 g
  have n1 : ∀ o u, X.H_0 a ≠ some (.frz o u) := fun o u z => nf o u (I1.st.2 a o u z)
  have n2 : ∀ o u, H a ≠ some (.frz o u) := fun o u z => nf o u (st.2 a o u z)
  refine ⟨⟨ob, hob, hx.1⟩, fun b q => by cases q; exact ⟨ob, hob, hx.2.1⟩, ?_⟩
  have I3' : I3 (ct X ca) X M0 pins σ3 (mset M1 a (lkOf T kvs)) σ (upd H1 a (.frz ob u)) { s1 with heap := s1.heap.push { cls := .type "dict_items", data := .fields #[.ref a] } } := I2.same (I2.inv.kept (t' := s1.toks) fun b ob q => Heap.get?_push_of_some _ q)
  have hob2 := Heap.get?_push_of_some { cls := .type "dict_items", data := .fields #[.ref a] } hob
  have fin : wpAny (model X.prog X.w) X.A (pyIter (.ref s1.heap.objs.size)) (It3 ca X M0 (.Tuple elts kk tpos) pins σ3 σ H M R) X.xe { s1 with heap := s1.heap.push { cls := .type "dict_items", data := .fields #[.ref a] } } :=
    PySem.wpAny_pyIter_items_raw (d := a) (es := es) (ep := ep) ⟨_, Heap.get?_push_size _ rfl, rfl, rfl⟩ ⟨ob, hob2, hx, hd⟩ (one_it (tk := s1.toks) I3' rfl (fun b o e => Heap.get?_push_of_some _ e) (turn_I _ hx hd er.all) ⟨.none, .none, Heap.get?_push_size _ rfl⟩ (st.trans st2) (it_I upd_same er) h (finUnlk n1 n2))
  show wpAny _ _ (callWith cp (.builtin "dict.items") [.ref a] [] []) _ X.xe s1
  exact method_meetsIn PySem.F.slot_dict_items PySem.F.entry_dict_items rfl (PySem.evalArgs_none ⟨rfl, ⟨ob, hob, hx.1⟩, PySem.F.args_dict_items_1 _, _, DT.meetsItems (es := es) (ep := ep) hs, ⟨⟨ob, hob, hx, hd⟩, fin⟩⟩)
theorem i_values {tg o : Expr} {ap cp : Pos} {io : E} (hn : noSuper o = true) (hl : (ap.endLine == cp.line) = true) (ho : SndEx ca X M0 P o io) : SndI ca X M0 P tg (.Call (.Attribute o "values" ap) [] [] cp) .values (.cons io .nil) := by
  intro X3 tk pins s σ H σ3 M R I hw
  refine wpAny_Call_method (T := "dict") (id := "dict.values") (noSuper_ok hn) rfl hl PySem.F.plainAttrs_dict PySem.F.slot_dict_values PySem.F.type_dict_values (thn (ho X3 tk pins s σ H σ3 M _ I hw) fun u s1 ⟨x, M1, v, H1, I1, rv, rd, st, q⟩ => ?_)
  obtain ⟨T, a, kvs, ex, g, h⟩ : ∃ (T : Bool) (a : Addr) (kvs : List (D × D)), x = .ref a ∧ M1 a = some (dkOf T kvs) ∧ R (kvs.map (·.2)) (fun M' => M' a = some (lkOf T kvs)) (mset M1 a (lkOf T kvs)) (unlk a) := by
    cases x with
    | ref a =>
      have q : wpIt .values [.ref a] M1 R := q
      cases g : M1 a with
      | none => simp only [wpIt, g] at q
      | some o =>
        cases o with
        | dct kvs =>
          simp only [wpIt, g] at q
          exact ⟨false, a, kvs, rfl, g, q⟩
        | dcT kvs =>
          simp only [wpIt, g] at q
          exact ⟨true, a, kvs, rfl, g, q⟩
        | _ => simp only [wpIt, g] at q
    | _ => exact q.elim
  subst ex
  have e : v = .ref a := rd
  subst e
  cases rv
  obtain ⟨hs, ob, es, ep, u, hob, hx, hd, I2, st2, er, nf⟩ := lock_at I1 g
  have n1 : ∀ o u, X.H_0 a ≠ some (.frz o u) := fun o u z => nf o u (I1.st.2 a o u z)
  have n2 : ∀ o u, H a ≠ some (.frz o u) := fun o u z => nf o u (st.2 a o u z)
  refine ⟨⟨ob, hob, hx.1⟩, fun b q => by cases q; exact ⟨ob, hob, hx.2.1⟩, ?_⟩
  have I3' : I3 (ct X ca) X M0 pins σ3 (mset M1 a (lkOf T kvs)) σ (upd H1 a (.frz ob u)) { s1 with heap := s1.heap.push { cls := .type "dict_values", data := .fields #[.ref a] } } := I2.same (I2.inv.kept (t' := s1.toks) fun b ob q => Heap.get?_push_of_some _ q)
  have hob2 := Heap.get?_push_of_some { cls := .type "dict_values", data := .fields #[.ref a] } hob
  have fin : wpAny (model X.prog X.w) X.A (pyIter (.ref s1.heap.objs.size)) (It3 ca X M0 tg pins σ3 σ H M R) X.xe { s1 with heap := s1.heap.push { cls := .type "dict_values", data := .fields #[.ref a] } } :=
    PySem.wpAny_pyIter_values_raw (d := a) (es := es) (ep := ep) ⟨_, Heap.get?_push_size _ rfl, rfl, rfl⟩ ⟨ob, hob2, hx, hd⟩ (one_it (tk := s1.toks) I3' rfl (fun b o e => Heap.get?_push_of_some _ e) (turn_V _ hx hd er.all) ⟨_, Heap.get?_push_size _ rfl, rfl, rfl⟩ (st.trans st2) (it_V upd_same er) h (finUnlk n1 n2))
  show wpAny _ _ (callWith cp (.builtin "dict.values") [.ref a] [] []) _ X.xe s1
  exact method_meetsIn PySem.F.slot_dict_values PySem.F.entry_dict_values rfl (PySem.evalArgs_none ⟨rfl, ⟨ob, hob, hx.1⟩, PySem.F.args_dict_values_1 _, _, PySem.meets_dict_values_raw a hs, ⟨⟨es, ep, ⟨ob, hob, hx, hd⟩⟩, fin⟩⟩)

/-! ### targets -/
theorem I3.store (I : I3 (ct X ca) X M0 pins σ3 M σ H s) {i : Nat} {d : D} {v : V} (rd : RD (ct X ca) H d v) {s' : Shared} (J : Inv X pins (σ.set i (some v)) H s') : I3 (ct X ca) X M0 pins (σ3.set i (some d)) M (σ.set i (some v)) H s' :=
  ⟨J, I.lo.set rd, I.hp, I.st⟩

def SndTg (ca : Nat → Addr) (X : Cx) (M0 : Mp) (tg : Expr) (t : Tg) : Prop :=
  ∀ (pins : List (Addr × Obj)) (s : Shared) (σ : L2.St) (H : Hp) (σ3 : Lo) (M : Mp) (d : D) (v : V) (u : Value) (k : Lo → Prop), I3 (ct X ca) X M0 pins σ3 M σ H s → RelV v u → RD (ct X ca) H d v → wpTg t d σ3 M k →
    wpAny (model X.prog X.w) X.A (assign tg X.env u) (fun _ s' => ∃ σ3' σ', I3 (ct X ca) X M0 pins σ3' M σ' H s' ∧ ((∀ j, j ∉ t.sl → σ'[j]? = σ[j]?) ∧ σ'.length = σ.length) ∧ k σ3') X.xe s
theorem tg_one {x : Str} {pos : Pos} {i : Nat} (ok : Ok3 ca X P cc) (hi : cc.slotW x = some i) : SndTg ca X M0 (.Name x pos) (.one i) := by
  intro pins s σ H σ3 M d v u k I rv rd h
  obtain ⟨h1, h2, h3⟩ := slotW_ok ok hi
  refine wpAny_assign_Name (store_ok I.inv ok.nd h1 h2 rv (fun s2 J => ⟨_, _, I.store rd J, ⟨fun j hj => ?_, List.length_set ..⟩, h⟩) h3)
  rw [List.getElem?_set_ne]
  intro e
  exact hj (by rw [e]; exact List.mem_singleton.mpr rfl)
/-- one behind another -/
def gNames : List Nat → TGs
  | [] => gNil
  | i :: l => gCons (gName i) (gNames l)
theorem each_names (cc : CC) : ∀ (es : List Expr) {l : List Nat} {env : Env}, cTgs cc es = some l → (assignEach es env).map (·.2) = es.map (fun e => assign e env) ∧ (assignEach es env).length = l.length ∧ (assignEach es env).findIdx? (·.1) = none
  | [], l, env, h => by cases h; exact ⟨rfl, rfl, rfl⟩
  | e :: es, l, env, h => by
    cases e with
    | Name x p =>
      simp only [cTgs] at h
      split at h
      · rename_i h1 h2
        cases h
        obtain ⟨g1, g2, g3⟩ := each_names cc es (env := env) h2
        have hc : assignEach (.Name x p :: es) env = (false, assign (.Name x p) env) :: assignEach es env := rfl
        refine ⟨by rw [hc, List.map_cons, List.map_cons, g1], by rw [hc, List.length_cons, List.length_cons, g2], ?_⟩
        rw [hc, List.findIdx?_cons]
        simp [g3]
      · cases h
    | _ => simp [cTgs] at h
theorem pgs_names (ok : Ok3 ca X P cc) : ∀ {es : List Expr} {l : List Nat}, cTgs cc es = some l → PGs X es (gNames l)
  | [], l, h => by cases h; exact pgs_nil
  | e :: es, l, h => by
    cases e with
    | Name x p =>
      simp only [cTgs] at h
      split at h
      · rename_i h1 h2
        cases h
        obtain ⟨n1, n2, n3⟩ := slotW_ok ok h1
        exact pgs_cons (pg_name ok.nd n1 n2 n3) (pgs_names ok h2) rfl
      · cases h
    | _ => simp [cTgs] at h
theorem names_ok {ca : Nat → Addr} {X : Cx} {H : Hp} : ∀ {l : List Nat} {ds : List D} {vs : List V} {σ3 σ3' : Lo} {σ : L2.St} {Q : L2.St → Hp → Prop}, RDs (ct X ca) H ds vs → RL (ct X ca) H σ3 σ → setMany l ds σ3 = some σ3' → (∀ σ', RL (ct X ca) H σ3' σ' → (∀ j, j ∉ l → σ'[j]? = σ[j]?) → σ'.length = σ.length → Q σ' H) → gNames l vs σ H Q
  | [], [], vs, σ3, σ3', σ, Q, r, rl, h, q => by cases h; exact ⟨r, q σ rl (fun _ _ => rfl) rfl⟩
  | i :: l, d :: ds, vs, σ3, σ3', σ, Q, r, rl, h, q => by
    obtain ⟨v, ws, rfl, r1, r2⟩ := r
    refine ⟨v, ws, rfl, names_ok r2 (rl.set r1) h fun σ' h1 h2 h3 => q σ' h1 (fun j hj => ?_) (by rw [h3, List.length_set])⟩
    rw [h2 j fun z => hj (List.mem_cons_of_mem _ z), List.getElem?_set_ne]
    intro e
    exact hj (by rw [e]; exact List.mem_cons_self)
  | [], _ :: _, _, _, _, _, _, _, _, h, _ => by cases h
  | _ :: _, [], _, _, _, _, _, _, _, h, _ => by cases h
theorem setMany_len : ∀ {l : List Nat} {ds : List D} {σ σ' : Lo}, setMany l ds σ = some σ' → ds.length = l.length
  | [], [], _, _, _ => rfl
  | i :: l, d :: ds, σ, σ', h => by rw [List.length_cons, List.length_cons, setMany_len (l := l) (ds := ds) h]
  | [], _ :: _, _, _, h => by cases h
  | _ :: _, [], _, _, h => by cases h
theorem tg_many {es : List Expr} {kk : Nat} {pos : Pos} {l : List Nat} (ok : Ok3 ca X P cc) (h : cTgs cc es = some l) : SndTg ca X M0 (.Tuple es kk pos) (.many l) := by
  intro pins s σ H σ3 M d v u k I rv rd hw
  obtain ⟨_, e2, e3⟩ := each_names cc es (env := X.env) h
  cases d with
  | tup ds =>
    obtain ⟨σ', hs, q⟩ := hw
    obtain ⟨a, xs, rfl, hq, rs⟩ := rd
    refine thn ((pg_tup (pos := pos) (k := kk) ok.hc (pgs_names ok h) e2 e3).run pins s σ H (.ref a) u (fun σ2 H2 => H2 = H ∧ RL (ct X ca) H σ' σ2 ∧ (∀ j, j ∉ l → σ2[j]? = σ[j]?) ∧ σ2.length = σ.length) I.inv rv ⟨a, xs, rfl, hq.sq, by rw [← rs.length]; exact setMany_len hs, names_ok rs I.lo hs fun σ2 h2 h3 h4 => ⟨rfl, h2, h3, h4⟩⟩) fun _ s1 ⟨σ2, H2, J, e, rl, h3, h4⟩ => ?_
    subst e
    exact ⟨σ', σ2, ⟨J, rl, I.hp, I.st⟩, ⟨h3, h4⟩, q⟩
  | ref a =>
    have hw' : (match M a with
      | some (.lst ds) => ∃ σ', setMany l ds σ3 = some σ' ∧ k σ'
      | _ => False) := hw
    have ev : v = .ref a := rd
    subst ev
    cases g : M a with
    | none => rw [g] at hw'; exact hw'.elim
    | some o =>
      rw [g] at hw'
      cases o with
      | lst ds =>
        obtain ⟨σ', hs, q⟩ := hw'
        obtain ⟨xs, hx, rs⟩ := I.hp.lst g
        refine thn ((pg_lst (pos := pos) (k := kk) ok.hc (pgs_names ok h) e2 e3).run pins s σ H (.ref a) u (fun σ2 H2 => H2 = H ∧ RL (ct X ca) H σ' σ2 ∧ (∀ j, j ∉ l → σ2[j]? = σ[j]?) ∧ σ2.length = σ.length) I.inv rv ⟨a, xs, rfl, SqL.of hx, by rw [← rs.length]; exact setMany_len hs, names_ok rs I.lo hs fun σ2 h2 h3 h4 => ⟨rfl, h2, h3, h4⟩⟩) fun _ s1 ⟨σ2, H2, J, e, rl, h3, h4⟩ => ?_
        subst e
        exact ⟨σ', σ2, ⟨J, rl, I.hp, I.st⟩, ⟨h3, h4⟩, q⟩
      | _ => exact hw'.elim
  | _ => exact hw.elim
end
end L3
end
section
set_option autoImplicit false
set_option linter.all false
set_option maxRecDepth 100000
/-! L3: comprehensions -/
namespace L3
open PySem L2 PyProof.Rows

/-- a heap in which everything is told: nothing is asked of what is untold -/
def MAll : Mp := fun _ => some (.lst [])
section
variable {ca : Nat → Addr} {X : Cx} {M0 M : Mp} {P : Pr} {cc : CC}
/-- a state of a block -/
theorem i3_blk {Y : Cx} {pins : List (Addr × Obj)} {σ : L2.St} {H : Hp} {s : Shared} {σ3 : Lo} {M : Mp} (I : Inv Y pins σ H s) (rl : RL (ct Y ca) H σ3 σ) (rm : RM (ct Y ca) H M) : I3 (ct Y ca) Y MAll pins σ3 M σ H s :=
  ⟨I, rl, rm, fun a o _ z => (nomatch z), I.base.frzs⟩
def teB (C : Ct) (P : Pr) (ie : E) : TE := fun σ H Q => ∃ σ3 M Q3, (RL C H σ3 σ ∧ RM C H M) ∧ wpE P (fun _ _ => False) ie σ3 M Q3 ∧ ∀ x M' v H', RL C H' σ3 σ → RM C H' M' → Stp H M H' M' → RD C H' x v → Q3 x M' → Q v H'
def ttB (C : Ct) (P : Pr) (it : T) : TT := fun σ H Q => ∃ σ3 M k, (RL C H σ3 σ ∧ RM C H M) ∧ wpT P (fun _ _ => False) it σ3 M k ∧ ∀ b M' H', RL C H' σ3 σ → RM C H' M' → Stp H M H' M' → k b M' → Q b H'
def tgB (C : Ct) (t : Tg) : TG := fun v σ H Q => ∃ σ3 M d k, (RL C H σ3 σ ∧ RM C H M ∧ RD C H d v) ∧ wpTg t d σ3 M k ∧ ∀ σ3' σ', RL C H σ3' σ' → (∀ j, j ∉ t.sl → σ'[j]? = σ[j]?) → σ'.length = σ.length → k σ3' → Q σ' H
def tiB (ca : Nat → Addr) (X : Cx) (M0 : Mp) (P : Pr) (X3 : Xs) (k : ItK) (es : Es) : TI := fun σ H R => ∃ σ3 M R3, (RL (ct X ca) H σ3 σ ∧ RM (ct X ca) H M ∧ Stp X.H_0 M0 H M) ∧ wpEs P (xat X3 σ3) es σ3 M (fun ds M1 => wpIt k ds M1 R3) ∧
  ∀ J H' M' ds G fin, RL (ct X ca) H' σ3 σ → RM (ct X ca) H' M' → Stp X.H_0 M0 H' M' → Stp H M H' M' → ItRel (ct X ca) J ds G H' → FinOk ca X fin H → R3 ds G M' fin → R J H'
theorem pe_B {Y : Cx} {e : Expr} {ie : E} (h : SndE ca Y MAll P (fun _ _ _ => False) e ie) : PE Y e (teB (ct Y ca) P ie) := by
  refine ⟨fun pins s σ H Q I ⟨σ3, M, Q3, ⟨h1, h2⟩, hw, hq⟩ => ?_⟩
  exact thn (h pins s σ H σ3 M Q3 (i3_blk I h1 h2) hw) fun u s1 ⟨d, M1, v, H1, I1, rv, rd, st, q⟩ => ⟨v, H1, I1.inv, rv, hq d M1 v H1 I1.lo I1.hp st rd q⟩
theorem pt_B {Y : Cx} {e : Expr} {ie : T} (h : SndT ca Y MAll P (fun _ _ _ => False) e ie) : PT Y e (ttB (ct Y ca) P ie) := by
  refine ⟨fun pins s σ H Q I ⟨σ3, M, Q3, ⟨h1, h2⟩, hw, hq⟩ => ?_⟩
  exact thn (h _ pins s σ H σ3 M Q3 (.inl rfl) (i3_blk I h1 h2) hw) fun u s1 ⟨M1, H1, I1, st, q⟩ => ⟨H1, I1.inv, hq u M1 H1 I1.lo I1.hp st q⟩
theorem pts_B0 {Y : Cx} : PTs Y [] (ttB (ct Y ca) P .tt) := by
  refine ⟨fun pins s σ H Q I ⟨σ3, M, Q3, ⟨h1, h2⟩, hw, hq⟩ => ?_⟩
  exact pts_nil.run pins s σ H Q I (hq true M H h1 h2 Stp.refl hw)
theorem pg_B {Y : Cx} {tg : Expr} {t : Tg} (h : SndTg ca Y MAll tg t) : PG Y tg (tgB (ct Y ca) t) := by
  refine ⟨fun pins s σ H v u Q I rv ⟨σ3, M, d, k, ⟨h1, h2, h3⟩, hw, hq⟩ => ?_⟩
  exact thn (h pins s σ H σ3 M d v u k (i3_blk I h1 h2) rv h3 hw) fun _ s1 ⟨σ3', σ', I1, ⟨g1, g2⟩, q⟩ => ⟨σ', H, I1.inv, hq σ3' σ' I1.lo g1 g2 q⟩
theorem pi_B {X3 : Xs} {tg e : Expr} {k : ItK} {es : Es} (tk : TK ca X M0 X3) (h : SndI ca X M0 P tg e k es) : PI X tg e (tiB ca X M0 P X3 k es) := by
  refine ⟨fun pins s σ H R I ⟨σ3, M, R3, ⟨h1, h2, h3⟩, hw, hq⟩ => ?_⟩
  exact thn (h X3 tk pins s σ H σ3 M R3 ⟨I, h1, h2, h3⟩ hw) fun v s1 g1 => thn g1 fun itv s2 ⟨it, fp, tn, J, H', M', ds, G, fin, e, I2, T, t0, f, st, hr, hf, q⟩ =>
    ⟨it, fp, tn, J, H', e, I2.inv, T, t0, f, hq J H' M' ds G fin I2.lo I2.hp I2.st st hr hf q⟩
theorem wipe_at {σ : L2.St} : ∀ {vs : List Nat} (j : Nat), j ∉ vs → (wipe σ vs)[j]? = σ[j]?
  | [], j, _ => rfl
  | v :: vs, j, h => by
    unfold wipe
    rw [List.getElem?_set_ne (fun e => h (by rw [e]; exact List.mem_cons_self)), wipe_at j fun z => h (List.mem_cons_of_mem _ z)]
theorem wipe_in {σ : L2.St} : ∀ {vs : List Nat} (j : Nat), j ∈ vs → j < σ.length → (wipe σ vs)[j]? = some none
  | v :: vs, j, h, hl => by
    unfold wipe
    by_cases e : v = j
    · subst e
      rw [List.getElem?_set_self (by rw [wipe_length]; exact hl)]
    · rw [List.getElem?_set_ne e]
      exact wipe_in j ((List.mem_cons.mp h).resolve_left fun z => e z.symm) hl
theorem wipe_eq {σ σ' : L2.St} {vs : List Nat} (h : ∀ j, j ∉ vs → σ'[j]? = σ[j]?) (hl : σ'.length = σ.length) : wipe σ' vs = wipe σ vs := by
  apply List.ext_getElem?
  intro j
  by_cases hj : j ∈ vs
  · by_cases hlt : j < σ.length
    · rw [wipe_in j hj (by rw [hl]; exact hlt), wipe_in j hj hlt]
    · rw [List.getElem?_eq_none (by rw [wipe_length]; omega), List.getElem?_eq_none (by rw [wipe_length]; omega)]
  · rw [wipe_at j hj, wipe_at j hj, h j hj]
theorem wipe_wipe {σ : L2.St} {vs : List Nat} : wipe (wipe σ vs) vs = wipe σ vs := wipe_eq (fun j hj => wipe_at j hj) (wipe_length ..)
theorem rl_wipe {C : Ct} {H : Hp} {σ3 : Lo} {σ : L2.St} (h : RL C H σ3 σ) (vs : List Nat) : RL C H (wipeL vs σ3) (wipe σ vs) := by
  have len : ∀ (vs : List Nat) (σ3 : Lo), (wipeL vs σ3).length = σ3.length := by
    intro vs
    induction vs with
    | nil => intro σ3; rfl
    | cons v vs ih => intro σ3; show (wipeL vs (σ3.set v none)).length = _; rw [ih, List.length_set]
  have at_ : ∀ (vs : List Nat) (σ3 : Lo) (i : Nat) (d : D), (wipeL vs σ3)[i]? = some (some d) → i ∉ vs ∧ σ3[i]? = some (some d) := by
    intro vs
    induction vs with
    | nil => intro σ3 i d e; exact ⟨List.not_mem_nil, e⟩
    | cons v vs ih =>
      intro σ3 i d e
      obtain ⟨h1, h2⟩ := ih (σ3.set v none) i d e
      by_cases hi : v = i
      · subst hi
        by_cases hl : v < σ3.length
        · rw [List.getElem?_set_self hl] at h2; cases h2
        · rw [List.getElem?_eq_none (by rw [List.length_set]; omega)] at h2; cases h2
      · rw [List.getElem?_set_ne hi] at h2
        exact ⟨fun z => (List.mem_cons.mp z).elim (fun z => hi z.symm) h1, h2⟩
  refine ⟨by rw [len, wipe_length]; exact h.1, fun i d e => ?_⟩
  obtain ⟨h1, h2⟩ := at_ vs σ3 i d e
  obtain ⟨v, hv, rd⟩ := h.2 i d h2
  exact ⟨v, by rw [wipe_at i h1]; exact hv, rd⟩
def LcEnd (ca : Nat → Addr) (X : Cx) (M0 : Mp) (σ : L2.St) (H : Hp) (σ3 : Lo) (M : Mp) (Q : Post) (D : Addr) (H' : Hp) : Prop :=
  ∃ acc xs M' fin, RL (ct X ca) H' σ3 σ ∧ RM (ct X ca) H' M' ∧ Stp H M H' M' ∧ Stp X.H_0 M0 H' M' ∧ (∀ o, H D = some o → M D = none → False) ∧ H' D = some (.lst xs) ∧ M' D = none ∧ RDs (ct X ca) H' acc xs ∧ FinOk ca X fin H ∧ wpNew (fin M') (.lst acc) Q
theorem lc_end {pins : List (Addr × Obj)} {σ σ' : L2.St} {H H' : Hp} {s s' : Shared} {σ3 : Lo} {Q : Post} {D : Addr} (I : I3 (ct X ca) X M0 pins σ3 M σ H s) (q : LcEnd ca X M0 σ H σ3 M Q D H') (J : Inv X pins σ' H' s') {σ4 : Lo} (rl' : RL (ct X ca) H' σ4 σ') :
    ∃ M2 H2, I3 (ct X ca) X M0 pins σ4 M2 σ' H2 s' ∧ Stp H M H2 M2 ∧ Q (.ref D) M2 := by
  obtain ⟨acc, xs, M', fin, rl, rm, st, st0, hD0, hD, hDM, rs, ⟨fn, hf⟩, q⟩ := q
  have rm2 : RM (ct X ca) H' (mset M' D (.lst acc)) := fun b m hb => by
    by_cases h : b = D
    · subst h
      rw [mset_same] at hb
      cases hb
      exact ⟨_, hD, rs⟩
    · rw [mset_ne h] at hb
      exact rm b m hb
  have up : ∀ {Ha : Hp} {Ma : Mp}, Stp Ha Ma H' M' → (∀ o, Ha D = some o → Ma D = none → False) → Stp Ha Ma H' (mset M' D (.lst acc)) := fun {Ha Ma} z hn => ⟨fun b o h1 h2 => by
    obtain ⟨g1, g2⟩ := z.1 b o h1 h2
    have ne : b ≠ D := by rintro rfl; exact hn o h1 h2
    exact ⟨g1, by rw [mset_ne ne]; exact g2⟩, z.2⟩
  have n0 : ∀ o, X.H_0 D = some o → M0 D = none → False := fun o h1 h2 => by
    obtain ⟨g1, g2⟩ := I.st.1 D o h1 h2
    exact hD0 o g1 g2
  have I2 : I3 (ct X ca) X M0 pins σ4 (mset M' D (.lst acc)) σ' H' s' := ⟨J, rl', rm2, up st0 n0⟩
  obtain ⟨H'', I3', k1, k2, k3⟩ := hf M0 pins σ4 _ σ' H' s' I2 (st.tupK I.hp)
  obtain ⟨e1, e2⟩ := fn M' D (.lst acc) hDM trivial
  rw [e1] at I3' k3
  refine ⟨_, H'', I3', ⟨fun b o h1 h2 => ?_, k1.2⟩, q D e2⟩
  obtain ⟨g1, g2⟩ := st.1 b o h1 h2
  have ne : b ≠ D := by rintro rfl; exact hD0 o h1 h2
  have := k3 b o g1 (by rw [mset_ne ne]; exact g2)
  exact this
theorem lc_tr {X3 : Xs} {pins : List (Addr × Obj)} {s : Shared} {σ : L2.St} {H : Hp} {σ3 : Lo} {Q : Post} {Qd : VK} {ie : E} {t : Tg} {k : ItK} {es : Es} {ic : T} (own : List Nat) (hsl : ∀ i ∈ t.sl, i ∈ own) (I : I3 (ct X ca) X M0 pins σ3 M σ H s) (hw : wpE P (xat X3 σ3) (.comp own ie t k es ic) σ3 M Q)
    (hQ : ∀ D H', LcEnd ca X M0 σ H σ3 M Q D H' → Qd (.ref D) H') : tLc (tiB ca X M0 P X3 k es) (tgB (ct X ca) t) (ttB (ct X ca) P ic) (teB (ct X ca) P ie) own σ H Qd := by
  refine ⟨σ3, M, _, ⟨I.lo, I.hp, I.st⟩, hw, fun J H1 M1 ds G fin rl1 rm1 st01 st1 hr hf w D hD => ?_⟩
  have hD0 : ∀ o, H D = some o → M D = none → False := fun o h1 h2 => by
    have := (st1.1 D o h1 h2).1
    rw [hD] at this
    cases this
  have nM : M1 D = none := rm1.free hD
  have k1 : TupK H1 (upd H1 D (.lst [])) := tupK_new hD
  let body : L3.D → Mp → (Option L3.D → Mp → Prop) → Prop := fun x M kk => wpTg t x (wipeL own σ3) M fun σ1 => wpT P (fun _ _ => False) ic σ1 M fun r M3 => if r = true then wpE P (fun _ _ => False) ie σ1 M3 fun d M4 => kk (some d) M4 else kk none M3
  let fn : List L3.D → Mp → Prop := fun acc M5 => wpNew (fin M5) (.lst acc) Q
  let St : Nat → Hp → Prop := fun i Hc => i ≤ ds.length ∧ ∃ acc xs M', RL (ct X ca) Hc σ3 σ ∧ RM (ct X ca) Hc M' ∧ Stp H1 M1 Hc M' ∧ Hc D = some (.lst xs) ∧ M' D = none ∧ RDs (ct X ca) Hc acc xs ∧ compL body G (ds.drop i) acc M' fn
  refine ⟨fun i m Hc => m = ds.length - i ∧ St i Hc, ⟨ds.length, rfl, Nat.zero_le _, [], [], M1, rl1.keep k1, rm1.new0 hD, upd_stp hD, upd_same, nM, rfl, w⟩, ?_⟩
  rintro i m Hc ⟨rfl, hi, acc, xs, M', rl, rm, st, hcD, nD, pd, w⟩
  have kc := st.tupK rm1
  by_cases hlt : i < ds.length
  · rw [List.drop_eq_getElem_cons hlt] at w
    obtain ⟨g, w⟩ := w
    obtain ⟨go, yl⟩ := (hr Hc M' kc rm g).1 i ds[i] (List.getElem?_eq_getElem hlt)
    refine .inr ⟨go, St (i + 1), fun H' n => ⟨ds.length - (i + 1), by omega, rfl, n⟩, fun x H' y => ?_⟩
    obtain ⟨rmY, stY, rdY⟩ := yl x H' y
    have kY := stY.tupK rm
    obtain ⟨dY, nDY⟩ := stY.1 D _ hcD nD
    refine ⟨wipeL own σ3, M', ds[i], _, ⟨rl_wipe (rl.keep kY) _, rmY, rdY⟩, w, fun σ3' σ2 rl2 hj hl w2 => ⟨?_, ?_⟩⟩
    · rw [wipe_eq (σ := wipe σ own) (fun j hj2 => hj j fun z => hj2 (hsl j z)) hl, wipe_wipe]
    refine ⟨σ3', M', _, ⟨rl2, rmY⟩, w2, fun b M3 H3 rl3 rm3 st3 w3 => ?_⟩
    have k3 := st3.tupK rmY
    obtain ⟨d3, nD3⟩ := st3.1 D _ dY nDY
    cases b with
    | false =>
      simp only [Bool.false_eq_true, if_false] at w3 ⊢
      exact ⟨hlt, acc, xs, M3, (rl.keep kY).keep k3, rm3, (st.trans stY).trans st3, d3, nD3, (pd.keep kY).keep k3, w3⟩
    | true =>
      simp only [if_true] at w3 ⊢
      refine ⟨σ3', M3, _, ⟨rl3, rm3⟩, w3, fun x4 M4 v4 H4 rl4 rm4 st4 rd4 w4 => ?_⟩
      obtain ⟨d4, nD4⟩ := st4.1 D _ d3 nD3
      obtain ⟨hlen, w5⟩ := w4
      have k4 := st4.tupK rm3
      have pd5 : RDs (ct X ca) H4 acc xs := ((pd.keep kY).keep k3).keep k4
      have kN : TupK H4 (upd H4 D (.lst (xs ++ [v4]))) := tupK_set d4 (fun xs e => nomatch e) fun ob z e => nomatch e
      refine ⟨xs, d4, by rw [← pd5.length]; exact hlen, hlt, acc ++ [x4], xs ++ [v4], M4, (((rl.keep kY).keep k3).keep k4).keep kN, fun b o hb => ?_, ⟨fun b o h1 h2 => ?_, fun b o u h1 => ?_⟩, upd_same, nD4, (pd5.append (RDs.mk1 rd4)).keep kN, w5⟩
      · obtain ⟨u, hu, ro⟩ := rm4 b o hb
        have ne : b ≠ D := by rintro rfl; rw [nD4] at hb; cases hb
        exact ⟨u, by rw [upd_ne ne]; exact hu, ro.keep kN⟩
      · have z := (((st.trans stY).trans st3).trans st4).1 b o h1 h2
        have ne : b ≠ D := by rintro rfl; rw [hD] at h1; cases h1
        exact ⟨by rw [upd_ne ne]; exact z.1, z.2⟩
      · have z := (((st.trans stY).trans st3).trans st4).2 b o u h1
        have ne : b ≠ D := by rintro rfl; rw [hD] at h1; cases h1
        rw [upd_ne ne]; exact z
  · have ei : i = ds.length := by omega
    subst ei
    rw [List.drop_length] at w
    obtain ⟨g, w⟩ := w
    exact .inl ⟨(hr Hc M' kc rm g).2, hQ D Hc ⟨acc, xs, M', fin, rl, rm, st1.trans st, st01.trans st, hD0, hcD, nD, pd, hf, w⟩⟩
/-- [x for target in iter if ..] -/
theorem s_comp {X3 : Xs} {ex tg iter : Expr} {ifs : List Expr} {scope : Scope} {pos : Pos} {ie : E} {t : Tg} {k : ItK} {es : Es} {ic : T} (tkX : TK ca X M0 X3) (own : List (Str × Nat)) (ok : Ok3 ca X P cc) (bok : BlkOk X.N X.env.scope scope own) (hsl : ∀ i ∈ t.sl, i ∈ own.map (·.2)) (hi : SndI ca X M0 P tg iter k es) (hs : ∀ x, foldedSetIterable iter X.env x = pure x)
    (hg : ∀ (s : Shared) (H : Hp) (C : Addr) (cl : List (Str × Addr)) (fp : List Addr), SndTg ca (X.blk s H scope (compEnvC scope cl C X.env) fp) MAll tg t)
    (ht : ∀ (s : Shared) (H : Hp) (C : Addr) (cl : List (Str × Addr)) (fp : List Addr), PTs (X.blk s H scope (compEnvC scope cl C X.env) fp) ifs (ttB (ct X ca) P ic))
    (he : ∀ (s : Shared) (H : Hp) (C : Addr) (cl : List (Str × Addr)) (fp : List Addr), SndE ca (X.blk s H scope (compEnvC scope cl C X.env) fp) MAll P (fun _ _ _ => False) ex ie) :
    SndE ca X M0 P X3 (.ListComp ex [⟨tg, iter, ifs, 0⟩] scope pos) (.comp (own.map (·.2)) ie t k es ic) := by
  intro pins s σ H σ3 M Q I hw
  let Qd : VK := fun v H' => ∃ D, v = .ref D ∧ LcEnd ca X M0 σ H σ3 M Q D H'
  have run := (pe_lc (te := teB (ct X ca) P ie) (tt := ttB (ct X ca) P ic) (g := tgB (ct X ca) t) (wi := tiB ca X M0 P X3 k es) (pos := pos) ok.hc ok.nd (pi_B tkX hi) bok (fun s H C cl fp => pg_B (hg s H C cl fp)) ht (fun s H C cl fp => pe_B (he s H C cl fp)) hs).run pins s σ H Qd I.inv (lc_tr _ hsl I hw fun D H' q => ⟨D, rfl, q⟩)
  refine thn run fun u s' ⟨v, H', J, rv, D, ev, q⟩ => ?_
  subst ev
  obtain ⟨M2, H2, I2, st2, q2⟩ := lc_end I q J q.choose_spec.choose_spec.choose_spec.choose_spec.1
  exact ⟨.ref D, _, .ref D, H2, I2, rv, rfl, st2, q2⟩
/-- a new dict, while a comprehension fills it -/
def NwB (C : Ct) (H : Hp) (D : Addr) (acc : List (L3.D × L3.D)) : Bool → Prop
  | true => ∃ xs, H D = some (nD C.P C.w D xs) ∧ (xs.map (·.1)).Nodup ∧ PTd C H acc xs
  | false => ∃ kvs, H D = some (.dK kvs) ∧ PD C H acc kvs
def newB (P : Program) (w : World) (D : Addr) : Bool → HO
  | true => nD P w D []
  | false => .dK []
section
variable {C : Ct} {H H' : Hp} {M' : Mp} {D : Addr} {acc : List (L3.D × L3.D)} {tk : Bool}
theorem NwB.has (h : NwB C H D acc tk) : ∃ o, H D = some o := by
  cases tk with
  | true => obtain ⟨xs, h, _⟩ := h; exact ⟨_, h⟩
  | false => obtain ⟨xs, h, _⟩ := h; exact ⟨_, h⟩
theorem NwB.go (h : NwB C H D acc tk) (un : M D = none) (st : Stp H M H' M') (k : TupK H H') : NwB C H' D acc tk ∧ M' D = none := by
  cases tk with
  | true =>
    obtain ⟨xs, h, n, pt⟩ := h
    obtain ⟨g1, g2⟩ := st.1 D _ h un
    exact ⟨⟨xs, g1, n, pt.keep k⟩, g2⟩
  | false =>
    obtain ⟨kvs, h, pd⟩ := h
    obtain ⟨g1, g2⟩ := st.1 D _ h un
    exact ⟨⟨kvs, g1, PD.keep k pd⟩, g2⟩
theorem NwB.start : NwB C (upd H D (newB C.P C.w D tk)) D [] tk := by
  cases tk with
  | true => exact ⟨[], upd_same, List.nodup_nil, .nil⟩
  | false => exact ⟨[], upd_same, .nil⟩
theorem NwB.ro (h : NwB C H D acc tk) (hs : (D == sysModules) = false) (hz : acc.length ≤ sizeLine) : ∃ o, H D = some o ∧ RO C H D (dctB tk acc) o := by
  cases tk with
  | true => obtain ⟨xs, h, n, pt⟩ := h; exact ⟨_, h, hs, hz, xs, rfl, n, pt⟩
  | false => obtain ⟨kvs, h, pd⟩ := h; exact ⟨_, h, kvs, rfl, pd⟩
end
theorem newB_ok {P : Program} {w : World} {H : Hp} {tk : Bool} (h : Heap) (hb : sysModules < h.objs.size) : ObjOk P w H (h.push { cls := .type "dict", data := .dict #[] }) h.objs.size (newB P w h.objs.size tk) := by
  cases tk with
  | true => exact nD_new h
  | false => exact dk_empty h hb
theorem ld_end {pins : List (Addr × Obj)} {σ σ' : L2.St} {H H' : Hp} {s s' : Shared} {σ3 σ4 : Lo} {Q : Post} {D : Addr} {acc : List (L3.D × L3.D)} {tk : Bool} {M' : Mp} {fin : Mp → Mp} (I : I3 (ct X ca) X M0 pins σ3 M σ H s) (J : Inv X pins σ' H' s') (rl : RL (ct X ca) H' σ4 σ') (rm : RM (ct X ca) H' M') (st : Stp H M H' M')
    (st0 : Stp X.H_0 M0 H' M') (hD0 : ∀ o, H D = some o → M D = none → False) (hDM : M' D = none) (hs : (D == sysModules) = false) (hz : acc.length ≤ sizeLine) (nw : NwB (ct X ca) H' D acc tk) (hf : FinOk ca X fin H) (q : wpNew (fin M') (dctB tk acc) Q) :
    ∃ M2 H2, I3 (ct X ca) X M0 pins σ4 M2 σ' H2 s' ∧ Stp H M H2 M2 ∧ Q (.ref D) M2 := by
  obtain ⟨o, hD, ro⟩ := nw.ro hs hz
  obtain ⟨fn, hf⟩ := hf
  have rmN : RM (ct X ca) H' (mset M' D (dctB tk acc)) := fun b m hb => by
    by_cases e : b = D
    · subst e; rw [mset_same] at hb; cases hb
      exact ⟨_, hD, ro⟩
    · rw [mset_ne e] at hb; exact rm b m hb
  have stN : ∀ {Ha : Hp} {Ma : Mp}, Stp Ha Ma H' M' → (∀ o, Ha D = some o → Ma D = none → False) → Stp Ha Ma H' (mset M' D (dctB tk acc)) := fun {Ha Ma} z no => ⟨fun b o g1 g2 => ⟨(z.1 b o g1 g2).1, (mset_ne (by rintro rfl; exact no o g1 g2)).trans (z.1 b o g1 g2).2⟩, z.2⟩
  have I2 : I3 (ct X ca) X M0 pins σ4 (mset M' D (dctB tk acc)) σ' H' s' := ⟨J, rl, rmN, stN st0 fun o g1 g2 => hD0 o (I.st.1 D o g1 g2).1 (I.st.1 D o g1 g2).2⟩
  obtain ⟨H'', IF, k1, k2, k3⟩ := hf M0 pins σ4 _ σ' H' s' I2 (st.tupK I.hp)
  obtain ⟨e1, e2⟩ := fn M' D (dctB tk acc) hDM (by cases tk <;> trivial)
  rw [e1] at IF k3
  refine ⟨_, H'', IF, ⟨fun b o g1 g2 => ?_, k1.2⟩, q D e2⟩
  have z := st.1 b o g1 g2
  exact k3 b o z.1 ((mset_ne (by rintro rfl; exact hD0 o g1 g2)).trans z.2)
/-- d[k] = v by such a comprehension -/
theorem ld_set {Y : Cx} {pins : List (Addr × Obj)} {σ : L2.St} {H : Hp} {s : Shared} {D : Addr} {acc : List (L3.D × L3.D)} {tk : Bool} {x z : L3.D} {v zv : V} {u zu : Value} {Q : Unit → Shared → Prop} {E : Value → Shared → Prop} (hu : Y.A.units + 10 < cLine) (I : Inv Y pins σ H s) (nw : NwB (ct Y ca) H D acc tk) (rx : RD (ct Y ca) H x v) (rv : RelV v u) (hx : hkB tk x = true)
    (rz : RD (ct Y ca) H z zv) (rzv : RelV zv zu) (hz : acc.length < sizeLine) (h : ∀ o s', Inv Y pins σ (upd H D o) s' → TupK H (upd H D o) → NwB (ct Y ca) (upd H D o) D (dput acc x z) tk → Q () s') : wpAny (model Y.prog Y.w) Y.A (dictSet D u zu) Q E s := by
  cases tk with
  | true =>
    obtain ⟨xs, hD, nn, pt⟩ := nw
    obtain ⟨us, xu, dd⟩ := nD_rd (C := ct Y ca) I.hok I.kIn (.inl hD) nn pt
    obtain ⟨b, rfl⟩ := hkT_ref rx hx
    cases rv
    have hk : (nestedKind Y.prog Y.w).is s.heap x.key b := ⟨RD.is (C := ct Y ca) I.hok I.kIn rx rfl (hkT_is hx).1, (hkT_is hx).2⟩
    have l1 : acc.length = us.length := pt.len.trans (Paired.length xu)
    refine wpAny_dictSet_heap (hsz := by omega) (show Y.A.units + 8 < cLine by omega) hk dd fun h' dd' sb => ?_
    obtain ⟨o, es, ep, ho, hxd, hd, he, his, _⟩ := dd'
    have kM : TupK H (upd H D (nD Y.prog Y.w D (storN xs x.key b zv))) := tupK_set hD (fun xs e => nomatch e) fun ob z e => nomatch e
    exact h (nD Y.prog Y.w D (storN xs x.key b zv)) _ (d_write I (by rw [hD]; exact True.intro) sb ⟨o, ho⟩ ⟨⟨_, o, es, ep, xu.put x.key b rzv, ho, hxd, hd, he⟩, ⟨o, ho⟩, fun h1 h2 ⟨us', o', es', ep', q1, q2, q3⟩ k => ⟨us', o', es', ep', q1, k _ q2, q3⟩⟩) kM
      ⟨_, upd_same, nodup_put nn x.key b zv, (pt_put hx rx rz pt).keep kM⟩
  | false =>
    obtain ⟨kvs, hD, pd⟩ := nw
    obtain ⟨kk, rfl, kr⟩ := key_rd rx hx
    have kM : TupK H (upd H D (.dK (putK kvs kk zv))) := tupK_set hD (fun xs e => nomatch e) fun ob z e => nomatch e
    exact d_dictSet I hD (by rw [← pd.len]; exact hz) rv rzv fun s' J => h _ s' J kM ⟨_, upd_same, PD.keep kM (pd_put kr rz pd)⟩
/-- a clause's tests, in a block -/
theorem pts_at {Y : Cx} {ifs : List Expr} {ic : T} {pins : List (Addr × Obj)} {s : Shared} {σ : L2.St} {H : Hp} {σ3 : Lo} {M : Mp} {k : Bool → Mp → Prop} (h : PTs Y ifs (ttB (ct Y ca) P ic)) (I : I3 (ct Y ca) Y MAll pins σ3 M σ H s) (hw : wpT P (fun _ _ => False) ic σ3 M k) :
    wpAny (model Y.prog Y.w) Y.A (forIn ifs true fun c r => if r = true then do let ok ← isTrue c Y.env (eval c Y.env); pure (ForInStep.yield ok) else pure (ForInStep.yield r)) (fun b s' => ∃ (H' : Hp) (M' : Mp), I3 (ct Y ca) Y MAll pins σ3 M' σ H' s' ∧ Stp H M H' M' ∧ k b M') Y.xe s :=
  thn (h.run pins s σ H (fun b H' => ∃ M', RL (ct Y ca) H' σ3 σ ∧ RM (ct Y ca) H' M' ∧ Stp H M H' M' ∧ k b M') I.inv ⟨σ3, M, k, ⟨I.lo, I.hp⟩, hw, fun b M' H' rl rm st q => ⟨M', rl, rm, st, q⟩⟩) fun b s' ⟨H', J, M', rl, rm, st, q⟩ => ⟨H', M', i3_blk J rl rm, st, q⟩
/-- {k: v for target in iter if ..} -/
theorem dcomp_core {tk : Bool} {use : Option (Value → Sem Unit)} {Qf : Value → Shared → Prop} {pos' : Pos} {X3 : Xs} {kx vx tg iter : Expr} {ifs : List Expr} {scope : Scope} {pos : Pos} {ik iv : E} {t : Tg} {k : ItK} {es : Es} {ic : T} (tkX : TK ca X M0 X3) (own : List (Str × Nat)) (ok : Ok3 ca X P cc) (bok : BlkOk X.N X.env.scope scope own) (hsl : ∀ i ∈ t.sl, i ∈ own.map (·.2)) (hi : SndI ca X M0 P tg iter k es) (hs : ∀ x, foldedSetIterable iter X.env x = pure x)
    (hg : ∀ (s : Shared) (H : Hp) (C : Addr) (cl : List (Str × Addr)) (fp : List Addr), SndTg ca (X.blk s H scope (compEnvC scope cl C X.env) fp) MAll tg t)
    (ht : ∀ (s : Shared) (H : Hp) (C : Addr) (cl : List (Str × Addr)) (fp : List Addr), PTs (X.blk s H scope (compEnvC scope cl C X.env) fp) ifs (ttB (ct X ca) P ic))
    (hk : ∀ (s : Shared) (H : Hp) (C : Addr) (cl : List (Str × Addr)) (fp : List Addr), SndE ca (X.blk s H scope (compEnvC scope cl C X.env) fp) MAll P (fun _ _ _ => False) kx ik)
    (hv : ∀ (s : Shared) (H : Hp) (C : Addr) (cl : List (Str × Addr)) (fp : List Addr), SndE ca (X.blk s H scope (compEnvC scope cl C X.env) fp) MAll P (fun _ _ _ => False) vx iv)
    {pins : List (Addr × Obj)} {s : Shared} {σ : L2.St} {H : Hp} {σ3 : Lo} {M : Mp} {Q : Post} (I : I3 (ct X ca) X M0 pins σ3 M σ H s)
    (hw : wpEs P (xat X3 σ3) es σ3 M fun ds M1 => wpIt k ds M1 fun xs G M2 fin =>
      dcompL tk (fun x M kk => wpTg t x (wipeL (own.map (·.2)) σ3) M fun σ1 => wpT P (fun _ _ => False) ic σ1 M fun r M3 => if r = true then wpE P (fun _ _ => False) ik σ1 M3 fun d M4 => wpE P (fun _ _ => False) iv σ1 M4 fun d' M5 => kk (some (d, d')) M5 else kk none M3) G xs [] M2
        fun acc M5 => wpNew (fin M5) (dctB tk acc) Q)
    (ends : ∀ (D C : Addr) (s' : Shared) (m : Str → Option Value) (H' : Hp) (acc : List (L3.D × L3.D)) (M' : Mp) (fin : Mp → Mp), Inv X pins σ H' s' → RL (ct X ca) H' σ3 σ → RM (ct X ca) H' M' → Stp H M H' M' → Stp X.H_0 M0 H' M' → (∀ o, H D = some o → M D = none → False) → M' D = none → (D == sysModules) = false → acc.length ≤ sizeLine → NwB (ct X ca) H' D acc tk → FinOk ca X fin H → wpNew (fin M') (dctB tk acc) Q →
      s'.heap.Ns C m → FpOk X pins H' C → compPost (model X.prog X.w) X.A X.xe use Qf (.ref D) C (.ok .next) s') :
    wpAny (model X.prog X.w) X.A (comprehension (.DictComp kx vx [⟨tg, iter, ifs, 0⟩] scope pos) scope X.env pos' newDict false (eval iter X.env) use) Qf X.xe s := by
  have cells : ∀ y ∈ scope.names, y.2 = .free → ∃ c, X.env.cells.lookup y.1 = some c := fun y hy e => (bok.free y hy e).elim (fun z => I.inv.ok.has _ (.inl z)) fun z => I.inv.ok.has _ (.inr z)
  refine wpAny_comprehension_free (use := use) rfl hs (closure_ok cells) bok.kind (fun y hy e => ?_) ?_
  · rw [bok.uniq y hy, e]
  refine thn (hi X3 tkX pins s σ H σ3 M _ I hw) fun xv sA hA => thn hA fun itv sB hB => ?_
  obtain ⟨it, fp, tn, J, H2, M2, ds, G, fin, rfl, I2, T, t0, hfp, st2, hr, hf, w⟩ := hB
  refine (wpAny_newObj_type (newEnv_comp ?begin))
  generalize hD : sB.heap.objs.size = D
  have nD0 : H2 D = none := I2.inv.hok.fresh (Nat.le_of_eq hD)
  have sysD : (D == sysModules) = false := beq_eq_false_iff_ne.mpr (by rw [← hD]; exact Ne.symm (Nat.ne_of_lt I2.inv.big))
  have unD : M2 D = none := I2.hp.free nD0
  have hD0 : ∀ o, H D = some o → M D = none → False := fun o g1 g2 => by
    have z := (st2.1 D o g1 g2).1
    rw [nD0] at z; cases z
  have kD : TupK H2 (upd H2 D (newB X.prog X.w D tk)) := tupK_new nD0
  have JC : Inv X pins σ (upd H2 D (newB X.prog X.w D tk)) { sB with heap := sB.heap.push { cls := .type "dict", data := .dict #[] } } :=
    I2.inv.laid (t' := sB.toks) (fun _ _ e => Heap.get?_push_of_some _ e) (Nat.le_of_eq hD) (by rw [← hD]; exact newB_ok sB.heap I2.inv.big)
  have fpC : ∀ b ∈ fp, FpOk X pins (upd H2 D (newB X.prog X.w D tk)) b ∧ b < (sB.heap.push { cls := .type "dict", data := .dict #[] }).objs.size := fun b hb => by
    obtain ⟨o, e, _⟩ := T.obj 0 _ t0 b hb
    have lt := Heap.lt_size e
    have z := hfp b hb
    exact ⟨⟨(upd_ne (by rw [← hD]; exact Nat.ne_of_lt lt)).trans z.1, z.2⟩, by rw [Heap.size_push]; exact Nat.lt_succ_of_lt lt⟩
  have tC : tn 0 (sB.heap.push { cls := .type "dict", data := .dict #[] }) := T.keep 0 _ _ t0 fun b _ o e => Heap.get?_push_of_some _ e
  have nwC : NwB (ct X ca) (upd H2 D (newB X.prog X.w D tk)) D [] tk := NwB.start (C := ct X ca)
  have rmC : RM (ct X ca) (upd H2 D (newB X.prog X.w D tk)) M2 := I2.hp.new0 nD0
  have stC : Stp H2 M2 (upd H2 D (newB X.prog X.w D tk)) M2 := upd_stp nD0
  have rlC := I2.lo.keep kD
  have hiC : TupK H2 (upd H2 D (newB X.prog X.w D tk)) := kD
  generalize hHC : upd H2 D (newB X.prog X.w D tk) = HC at JC fpC nwC rmC stC rlC kD
  generalize hsC : ({ sB with heap := sB.heap.push { cls := .type "dict", data := .dict #[] } } : Shared) = sC at JC
  have hpC : sB.heap.push { cls := .type "dict", data := .dict #[] } = sC.heap := by rw [← hsC]
  rw [hpC] at fpC tC
  have J4 := block_start JC bok ok.nd fpC
  change codeAny _ _ (.compStart _ 0 (.ref it) (.ref D) (compEnvC scope (cellsFrom (sC.heap.objs.size + 1) scope.names (cloFrom X.env.cells scope.names [])) sC.heap.objs.size X.env)) (compPost _ _ _ use _ (.ref D) sC.heap.objs.size) _
  have g1 := hg sC HC sC.heap.objs.size (cellsFrom (sC.heap.objs.size + 1) scope.names (cloFrom X.env.cells scope.names [])) fp
  have g2 := ht sC HC sC.heap.objs.size (cellsFrom (sC.heap.objs.size + 1) scope.names (cloFrom X.env.cells scope.names [])) fp
  have g3 := hk sC HC sC.heap.objs.size (cellsFrom (sC.heap.objs.size + 1) scope.names (cloFrom X.env.cells scope.names [])) fp
  have g4 := hv sC HC sC.heap.objs.size (cellsFrom (sC.heap.objs.size + 1) scope.names (cloFrom X.env.cells scope.names [])) fp
  generalize eCE : compEnvC scope (cellsFrom (sC.heap.objs.size + 1) scope.names (cloFrom X.env.cells scope.names [])) sC.heap.objs.size X.env = CE at J4 g1 g2 g3 g4 ⊢
  have lCE : CE.locals = sC.heap.objs.size := by rw [← eCE]; rfl
  generalize hsE : ({ sC with heap := pushCells (sC.heap.push { cls := .type "dict", data := .dict #[] }) scope.names } : Shared) = sE at J4 ⊢
  have tE : tn 0 sE.heap := T.keep 0 _ _ tC fun b _ o e => by rw [← hsE]; exact pushCells_keeps _ _ _ _ (Heap.get?_push_of_some _ e)
  have mine : ∀ {σ' : L2.St} {H' : Hp} {s' : Shared}, Inv (X.blk sC HC scope CE fp) [] σ' H' s' → (∀ b ∈ fp, H' b = none) → ∀ b ∈ fp, FpOk (X.blk sC HC scope CE fp) [] H' b := fun {σ' H' s'} J' no b hb =>
    ⟨no b hb, (J'.ok.exf b hb).1, J'.ok.exfs b hb, .inl hb, fun x c e => (J'.ok.exf b hb).2 x c e, fun p hp => absurd (show p ∈ ([] : List (Addr × Obj)) ++ [] from hp) (by simp)⟩
  suffices loop : codeAny (model X.prog X.w) X.A (.compLoop (.DictComp kx vx [⟨tg, iter, ifs, 0⟩] scope pos) 0 (.ref it) (.ref D) CE) (compPost (model X.prog X.w) X.A X.xe use Qf (.ref D) sC.heap.objs.size) sE from
    codeAny_compStart_dict loop (T.self X.A 0 _ _ _ tE loop)
  refine compLoop_anyD (fun n s' => ∃ (i : Nat) (H' : Hp) (acc : List (L3.D × L3.D)) (M' : Mp), n = ds.length - i ∧ i ≤ ds.length ∧ Inv (X.blk sC HC scope CE fp) [] (wipe σ (own.map (·.2))) H' s' ∧ tn i s'.heap ∧ (∀ b ∈ fp, H' b = none) ∧
    RL (ct X ca) H' σ3 σ ∧ RM (ct X ca) H' M' ∧ Stp H2 M2 H' M' ∧ M' D = none ∧ acc.length ≤ sizeLine ∧ NwB (ct X ca) H' D acc tk ∧
    dcompL tk (fun x M kk => wpTg t x (wipeL (own.map (·.2)) σ3) M fun σ1 => wpT P (fun _ _ => False) ic σ1 M fun r M3 => if r = true then wpE P (fun _ _ => False) ik σ1 M3 fun d M4 => wpE P (fun _ _ => False) iv σ1 M4 fun d' M5 => kk (some (d, d')) M5 else kk none M3) G (ds.drop i) acc M' (fun acc M5 => wpNew (fin M5) (dctB tk acc) Q))
    ?turn ds.length ⟨0, HC, [], M2, rfl, Nat.zero_le _, J4, tE, fun b hb => (fpC b hb).1.1, rlC, rmC, stC, unD, Nat.zero_le _, nwC, w⟩
  rintro n sF ⟨i, HF, acc, MF, rfl, hle, JF, tF, noF, rlF, rmF, stF, unF, lenF, nwF, wF⟩
  have kF := stF.tupK I2.hp
  by_cases more : i < ds.length
  · rw [List.drop_eq_getElem_cons more] at wF
    obtain ⟨gF, wF⟩ := wF
    obtain ⟨go, yl⟩ := (hr HF MF kF rmF gF).1 i ds[i] (List.getElem?_eq_getElem more)
    refine thnF (T.item (X.blk sC HC scope CE fp) rfl rfl rfl ok.hc i [] sF _ HF (fun _ _ => False) JF (mine JF noF) tF go) fun r sG ⟨u, er, hG⟩ => ?_
    subst er
    refine thnF hG fun _ sH ⟨x, HH, JH, rx, yH, tH, noH⟩ => ?_
    obtain ⟨rmH, stH, rdH⟩ := yl x HH yH
    have kH := stH.tupK rmF
    have JP := JH.pinned (mine JH noH) (T.obj _ _ tH)
    refine thnF (g1 _ sH _ HH (wipeL (own.map (·.2)) σ3) MF ds[i] x u _ (i3_blk JP (rl_wipe (rlF.keep kH) _) rmH) rx rdH wF) fun _ sI ⟨σ5, σ6, II, ⟨hj, hlen⟩, wI⟩ => ?_
    have hwipe : wipe σ6 (own.map (·.2)) = wipe σ (own.map (·.2)) := by
      rw [wipe_eq (σ := wipe σ (own.map (·.2))) (fun j hj2 => hj j fun z => hj2 (hsl j z)) hlen, wipe_wipe]
    have next : ∀ {s' : Shared} {H' : Hp} {acc' : List (L3.D × L3.D)} {M' : Mp}, Inv (X.blk sC HC scope CE fp) ([] ++ pinsAt fp sH.heap) σ6 H' s' → TupK HH H' → RM (ct X ca) H' M' → Stp H2 M2 H' M' → M' D = none → acc'.length ≤ sizeLine → NwB (ct X ca) H' D acc' tk →
        dcompL tk (fun x M kk => wpTg t x (wipeL (own.map (·.2)) σ3) M fun σ1 => wpT P (fun _ _ => False) ic σ1 M fun r M3 => if r = true then wpE P (fun _ _ => False) ik σ1 M3 fun d M4 => wpE P (fun _ _ => False) iv σ1 M4 fun d' M5 => kk (some (d, d')) M5 else kk none M3) G (ds.drop (i + 1)) acc' M' (fun acc M5 => wpNew (fin M5) (dctB tk acc) Q) →
        ∃ m, m < ds.length - i ∧ ∃ (i : Nat) (H' : Hp) (acc : List (L3.D × L3.D)) (M' : Mp), m = ds.length - i ∧ i ≤ ds.length ∧ Inv (X.blk sC HC scope CE fp) [] (wipe σ (own.map (·.2))) H' s' ∧ tn i s'.heap ∧ (∀ b ∈ fp, H' b = none) ∧
          RL (ct X ca) H' σ3 σ ∧ RM (ct X ca) H' M' ∧ Stp H2 M2 H' M' ∧ M' D = none ∧ acc.length ≤ sizeLine ∧ NwB (ct X ca) H' D acc tk ∧
          dcompL tk (fun x M kk => wpTg t x (wipeL (own.map (·.2)) σ3) M fun σ1 => wpT P (fun _ _ => False) ic σ1 M fun r M3 => if r = true then wpE P (fun _ _ => False) ik σ1 M3 fun d M4 => wpE P (fun _ _ => False) iv σ1 M4 fun d' M5 => kk (some (d, d')) M5 else kk none M3) G (ds.drop i) acc M' (fun acc M5 => wpNew (fin M5) (dctB tk acc) Q) := by
      intro s' H' acc' M' J' kk rm' st' un' le' nw' w'
      have held : ∀ b ∈ fp, ∀ o, sH.heap.get? b = some o → s'.heap.get? b = some o ∧ H' b = none := fun b hb o e =>
        let z := J'.pin (b, o) (List.mem_append_right _ (List.mem_append_right _ (mem_pinsAt hb e)))
        ⟨z.1, z.2.1⟩
      refine ⟨ds.length - (i + 1), by omega, i + 1, H', acc', M', rfl, more, (J'.unpinned (pins := [])).weak ?_ (fun j v e => ?_), T.keep _ _ _ tH fun b hb o e => (held b hb o e).1, fun b hb => ?_, (rlF.keep kH).keep kk, rm', st', un', le', nw', w'⟩
      · rw [← hwipe, wipe_length]
      · rw [← hwipe] at e; exact (wipe_some e).1
      · obtain ⟨o, e, _⟩ := T.obj _ _ tH b hb
        exact (held b hb o e).2
    refine thnF (pts_at g2 II wI) fun b sJ ⟨H3, M3, IJ, stJ, wJ⟩ => ?_
    have kJ := stJ.tupK II.hp
    obtain ⟨nwH, unH⟩ := nwF.go unF stH kH
    obtain ⟨nwJ, unJ⟩ := nwH.go unH stJ kJ
    cases b with
    | false =>
      simp only [Bool.false_eq_true, if_false] at wJ ⊢
      exact next IJ.inv kJ IJ.hp ((stF.trans stH).trans stJ) unJ lenF nwJ wJ
    | true =>
      simp only [if_true] at wJ ⊢
      refine thnF (g3 _ sJ σ6 H3 σ5 M3 _ IJ wJ) fun zk sK ⟨dk, M4, vk, H4, IK, rk, rdk, stK, wK⟩ => ?_
      have kK := stK.tupK IJ.hp
      obtain ⟨nwK, unK⟩ := nwJ.go unJ stK kK
      refine thnF (g4 _ sK σ6 H4 σ5 M4 _ IK wK) fun zv sL ⟨dv, M5, vv, H5, IL, rv, rdv, stL, ⟨hkt, hlt⟩, wL⟩ => ?_
      have kL := stL.tupK IK.hp
      obtain ⟨nwL, unL⟩ := nwK.go unK stL kL
      have stA : Stp H2 M2 H5 M5 := (((stF.trans stH).trans stJ).trans stK).trans stL
      refine ld_set (Y := X.blk sC HC scope CE fp) (show X.A.units + 10 < cLine by have := ok.hu; omega) IL.inv nwL (rdk.keep kL) rk hkt rdv rv hlt fun oM sM JM kM nwM => ?_
      refine next JM (((kJ.trans kK).trans kL).trans kM) (fun c o hc => ?_) ⟨fun c o e1 e2 => ?_, fun c o u' e1 => ?_⟩ unL (Nat.le_trans (dput_le _ _ _) hlt) nwM wL
      · obtain ⟨u', hu', ro⟩ := IL.hp c o hc
        have ne : c ≠ D := by rintro rfl; rw [unL] at hc; cases hc
        exact ⟨u', (upd_ne ne).trans hu', ro.keep kM⟩
      · have z := stA.1 c o e1 e2
        exact ⟨(upd_ne (by rintro rfl; rw [nD0] at e1; cases e1)).trans z.1, z.2⟩
      · exact (upd_ne (by rintro rfl; rw [nD0] at e1; cases e1)).trans (stA.2 c o u' e1)
  · have ei : i = ds.length := Nat.le_antisymm hle (Nat.le_of_not_lt more)
    subst ei
    rw [List.drop_length] at wF
    obtain ⟨gF, wF⟩ := wF
    refine thnF (T.done (X.blk sC HC scope CE fp) rfl rfl rfl ok.hc ds.length [] sF _ HF (fun _ _ => False) JF (mine JF noF) tF (hr HF MF kF rmF gF).2) fun r sG ⟨er, JG⟩ => ?_
    subst er
    have JX : Inv X pins σ HF sG := JC.call' (ch := fp) JG.os JG.base JG.hok JG.bare fun b hb => let z := (fpC b hb).1; ⟨z.2.2.2.1, z.2.1, z.2.2.2.2.1, z.2.2.2.2.2⟩
    have nC : HF sC.heap.objs.size = none := by
      have z : HF CE.locals = none := JG.free
      rw [lCE] at z; exact z
    obtain ⟨m, hn, _⟩ := JG.loc
    have hn : sG.heap.Ns CE.locals m := hn
    rw [lCE] at hn
    exact ends D sC.heap.objs.size sG m HF acc MF fin JX rlF rmF (st2.trans stF) (I2.st.trans stF) hD0 unF sysD lenF nwF hf wF hn (JC.fpOk (Nat.le_refl _) nC)
/-- .. as a value -/
theorem s_dcomp {X3 : Xs} {kx vx tg iter : Expr} {ifs : List Expr} {scope : Scope} {pos : Pos} {ik iv : E} {t : Tg} {k : ItK} {es : Es} {ic : T} (tkX : TK ca X M0 X3) (own : List (Str × Nat)) (ok : Ok3 ca X P cc) (bok : BlkOk X.N X.env.scope scope own) (hsl : ∀ i ∈ t.sl, i ∈ own.map (·.2)) (hi : SndI ca X M0 P tg iter k es) (hs : ∀ x, foldedSetIterable iter X.env x = pure x)
    (hg : ∀ (s : Shared) (H : Hp) (C : Addr) (cl : List (Str × Addr)) (fp : List Addr), SndTg ca (X.blk s H scope (compEnvC scope cl C X.env) fp) MAll tg t)
    (ht : ∀ (s : Shared) (H : Hp) (C : Addr) (cl : List (Str × Addr)) (fp : List Addr), PTs (X.blk s H scope (compEnvC scope cl C X.env) fp) ifs (ttB (ct X ca) P ic))
    (hk : ∀ (s : Shared) (H : Hp) (C : Addr) (cl : List (Str × Addr)) (fp : List Addr), SndE ca (X.blk s H scope (compEnvC scope cl C X.env) fp) MAll P (fun _ _ _ => False) kx ik)
    (hv : ∀ (s : Shared) (H : Hp) (C : Addr) (cl : List (Str × Addr)) (fp : List Addr), SndE ca (X.blk s H scope (compEnvC scope cl C X.env) fp) MAll P (fun _ _ _ => False) vx iv) :
    SndE ca X M0 P X3 (.DictComp kx vx [⟨tg, iter, ifs, 0⟩] scope pos) (.dcomp (own.map (·.2)) ik iv t k es ic) := by
  intro pins s σ H σ3 M Q I hw
  obtain ⟨tk, hw⟩ := hw
  rw [arm_eval_DictComp]
  refine dcomp_core tkX own ok bok hsl hi hs hg ht hk hv I hw fun D C s' m H' acc M' fin J rl rm st st0 hD0 un hs' hz nw hf q hn f => ⟨m, hn, fun h'' sb => ?_⟩
  obtain ⟨f0, f1, f2, f3, f4, f5⟩ := f
  obtain ⟨M2, H2, I2, st2, q2⟩ := ld_end I (J.turned (t' := s'.toks) (fun b o hb e => (sb.2 b hb).trans e) f0 f1 f3 f4 f5) rl rm st st0 hD0 un hs' hz nw hf q
  exact ⟨.ref D, _, .ref D, H2, I2, rfl, rfl, st2, q2⟩
end
end L3
end
section
set_option autoImplicit false
set_option linter.all false
set_option maxRecDepth 100000
/-! L3: list(d.items()), sorted(d.items()), displays -/
namespace L3
open PySem L2 PyProof.Rows

section
variable {ca : Nat → Addr} {X : Cx} {M0 M : Mp} {pins : List (Addr × Obj)} {σ3 : Lo} {σ : L2.St} {H : Hp} {s : Shared} {P : Pr} {cc : CC} {X3 : Xs}
theorem rds_of {C : Ct} {H : Hp} : ∀ {ds : List D} {xs : List V}, ds.length = xs.length → (∀ (i : Nat) (d : D) (x : V), ds[i]? = some d → xs[i]? = some x → RD C H d x) → RDs C H ds xs
  | [], [], _, _ => rfl
  | d :: ds, x :: xs, hl, h => ⟨x, xs, rfl, h 0 d x rfl rfl, rds_of (by simpa using hl) fun i d' x' e1 e2 => h (i + 1) d' x' (by simpa using e1) (by simpa using e2)⟩
  | [], _ :: _, hl, _ => by simp at hl
  | _ :: _, [], hl, _ => by simp at hl
/-- the pairs that were made are tracked -/
theorem track {H1 : Hp} {kvs : List (D × D)} {es : Array DictEntry} {h' : Heap} {tk : Nat} {as : List Addr} (I : I3 (ct X ca) X M0 pins σ3 M σ H s) (J : Inv X pins σ H1 { s with heap := h', toks := tk }) (hs : ∀ b o, H b = some o → H1 b = some o) (n1 : ∀ a ∈ as, H1 a = none)
    (hl : as.length = es.size) (G : DT.Made es s.heap.objs.size h' as) (er : EntRel (ct X ca) H kvs es) :
    ∃ H2, Inv X pins σ H2 { s with heap := h', toks := tk } ∧ (∀ b o, H1 b = some o → H2 b = some o) ∧ RDs (ct X ca) H2 (kvs.map pairD) (as.map V.ref) := by
  obtain ⟨H2, I2, g, qt⟩ := DX.takeT (P := fun b vs => ∃ (j : Nat) (en : DictEntry) (x1 x2 : V), as[j]? = some b ∧ es[j]? = some en ∧ L2.RelV x1 en.key ∧ L2.RelV x2 en.val ∧ vs = [x1, x2]) I.inv as H1 J (List.Pairwise.imp (fun h => Nat.ne_of_lt h) G.rise) fun b hb => by
    obtain ⟨j, hj⟩ := List.mem_iff_getElem?.mp hb
    obtain ⟨en, he, hg⟩ := G.pairs j b hj
    obtain ⟨x1, x2, r1, r2⟩ := er.all j en he
    exact ⟨Nat.le_of_lt (G.above b hb), n1 b hb, [x1, x2], ⟨j, en, x1, x2, hj, he, r1, r2, rfl⟩, fun H3 => ⟨by show 2 ≤ sizeLine; decide, [en.key, en.val], .cons r1 (.cons r2 .nil), ⟨_, hg, rfl, _, rfl⟩⟩⟩
  have gr : ∀ b o, H b = some o → H2 b = some o := fun b o e => g b o (hs b o e)
  have kk : TupK H H2 := ⟨fun a xs e => gr _ _ e, fun a ob u e => gr _ _ e⟩
  refine ⟨H2, I2, g, rds_of (by rw [List.length_map, List.length_map, hl]; exact er.1.symm) fun i d x e1 e2 => ?_⟩
  rw [List.getElem?_map] at e1 e2
  cases q1 : kvs[i]? with
  | none => rw [q1] at e1; cases e1
  | some p =>
    cases q2 : as[i]? with
    | none => rw [q2] at e2; cases e2
    | some b =>
      rw [q1] at e1
      rw [q2] at e2
      cases e1
      cases e2
      obtain ⟨en, y1, y2, a1, a2, a3, a4, a5⟩ := er.2 i p q1
      obtain ⟨vs, ⟨j, en', x1, x2, b1, b2, b3, b4, rfl⟩, hH⟩ := qt b (List.mem_of_getElem? q2)
      have nd : as.Nodup := List.Pairwise.imp (fun h => Nat.ne_of_lt h) G.rise
      have eij : i = j := (List.getElem?_inj (List.getElem?_eq_some_iff.mp q2).1 nd).mp (q2.trans b1.symm)
      subst eij
      rw [a1] at b2
      cases b2
      rw [relV_inj b3 a2, relV_inj b4 a3] at hH
      exact ⟨b, [y1, y2], rfl, .inl hH, _, _, rfl, a4.keep kk, _, _, rfl, a5.keep kk, rfl⟩
/-- o.items() as a value: a view -/
theorem ev_items {o : Expr} {ap cp : Pos} {io : E} {Z : List (D × D) → Mp → Prop} {R : Value → Shared → Prop} (hn : noSuper o = true) (hl : (ap.endLine == cp.line) = true) (ho : SndE ca X M0 P X3 o io) (I : I3 (ct X ca) X M0 pins σ3 M σ H s)
    (hw : wpE P (xat X3 σ3) io σ3 M fun x M1 => ∃ a kvs, x = .ref a ∧ (M1 a = some (.dct kvs) ∨ M1 a = some (.dcT kvs)) ∧ Z kvs M1)
    (fin : ∀ (s1 : Shared) (H1 : Hp) (M1 : Mp) (a r : Addr) (kvs : List (D × D)) (es : Array DictEntry) (ep : Nat), I3 (ct X ca) X M0 pins σ3 M1 σ H1 s1 → Stp H M H1 M1 → s1.heap.IsItemsView r a → DT.Raw s1.heap a es ep → kvs.length ≤ sizeLine → EntRel (ct X ca) H1 kvs es → Z kvs M1 → R (.ref r) s1) :
    wpAny (model X.prog X.w) X.A (eval (.Call (.Attribute o "items" ap) [] [] cp) X.env) R X.xe s := by
  refine wpAny_Call_method (T := "dict") (id := "dict.items") (noSuper_ok hn) rfl hl PySem.F.plainAttrs_dict PySem.F.slot_dict_items PySem.F.type_dict_items (thn (ho pins s σ H σ3 M _ I hw) fun u s1 ⟨x, M1, v, H1, I1, rv, rd, st, a, kvs, ex, g, z⟩ => ?_)
  subst ex
  have e : v = .ref a := rd
  subst e
  cases rv
  obtain ⟨hs, hz, ob, es, ep, hob, hx, hd, er⟩ := I1.ents g
  refine ⟨⟨ob, hob, hx.1⟩, fun b q => by cases q; exact ⟨ob, hob, hx.2.1⟩, ?_⟩
  have I2 : I3 (ct X ca) X M0 pins σ3 M1 σ H1 { s1 with heap := s1.heap.push { cls := .type "dict_items", data := .fields #[.ref a] } } := I1.same (I1.inv.kept (t' := s1.toks) fun b ob q => Heap.get?_push_of_some _ q)
  have hob2 := Heap.get?_push_of_some { cls := .type "dict_items", data := .fields #[.ref a] } hob
  show wpAny _ _ (callWith cp (.builtin "dict.items") [.ref a] [] []) _ X.xe s1
  exact method_meetsIn PySem.F.slot_dict_items PySem.F.entry_dict_items rfl (PySem.evalArgs_none ⟨rfl, ⟨ob, hob, hx.1⟩, PySem.F.args_dict_items_1 _, _, DT.meetsItems (es := es) (ep := ep) hs, ⟨⟨ob, hob, hx, hd⟩, fin _ H1 M1 a s1.heap.objs.size kvs es ep I2 st ⟨_, Heap.get?_push_size _ rfl, rfl, rfl⟩ ⟨ob, hob2, hx, hd⟩ hz er z⟩⟩)
theorem list_items {A : Around} {E : Value → Shared → Prop} {r d : Addr} {es : Array DictEntry} {ep : Nat} {prog : Program} {w : World} {Q : Value → Shared → Prop} (hh : A.handled = none) (hv : s.heap.IsItemsView r d) (hm : DT.Raw s.heap d es ep) (hn : es.size ≤ sizeLine)
    (hQ : ∀ h' tk acc c as, (∀ b o, s.heap.get? b = some o → h'.get? b = some o) → h'.get? s.heap.objs.size = some { cls := .type "list", dict := none, data := .seq acc c, slots := #[] } → as.length = es.size → DT.Made es s.heap.objs.size h' as → acc.toList = as.map Value.ref → Q (.ref s.heap.objs.size) { s with heap := h', toks := tk }) :
    wpAny (model prog w) A (call (.type "list") [.ref r]) Q E s := by
  have hr : r < s.heap.objs.size := let ⟨_, ho, _⟩ := hv; Heap.lt_size ho
  have hd : d < s.heap.objs.size := hm.lt
  refine callType_codes (Q₁ := fun obj s₁ => obj = .ref s.heap.objs.size ∧ s₁ = { s with heap := s.heap.push { cls := .type "list", data := .seq #[] } }) PySem.F.called_list (PySem.F.typeCall_list_1 _) PySem.F.entry_list_init
    (code_list_new _ ⟨rfl, rfl⟩) fun obj s₁ h₁ => ?_
  obtain ⟨rfl, rfl⟩ := h₁
  have hS : (s.heap.push { cls := .type "list", data := .seq #[] }).get? s.heap.objs.size = some { cls := .type "list", data := .seq #[] } := Heap.get?_push_size _ rfl
  refine ⟨⟨_, hS, rfl⟩, PySem.F.args_list_init_2 _ _, ?_⟩
  show wpAny _ _ (do let old ← Builtin.List.listItems (.ref s.heap.objs.size); Builtin.List.listUpdate (.ref s.heap.objs.size) (fun _ => #[]); letGo old.toList.reverse; Builtin.List.listExtendWith (.ref s.heap.objs.size) (.ref r) .none) _ _ _
  refine wpAny_bind ?_
  unfold Builtin.List.listItems
  refine wpAny_bind (wpAny_seqItems hS rfl (wpAny_pure ?_))
  show wpAny _ _ (updateSeq s.heap.objs.size (fun _ => #[]) >>= fun _ => letGo (#[] : Array Value).toList.reverse >>= fun _ => Builtin.List.listExtendWith (.ref s.heap.objs.size) (.ref r) .none) _ _ _
  refine wpAny_bind (wpAny_updateSeq hS rfl ?_)
  have hS₂ := Heap.get?_update_self (Obj.mapSeq (fun _ => (#[] : Array Value))) hS rfl
  have oth : ∀ b o, b ≠ s.heap.objs.size → (s.heap.push { cls := .type "list", data := .seq #[] }).get? b = some o → ((s.heap.push { cls := .type "list", data := .seq #[] }).update s.heap.objs.size (Obj.mapSeq (fun _ => (#[] : Array Value)))).get? b = some o :=
    fun b o hb e => (Heap.get?_update_other _ _ (Ne.symm hb)).trans e
  have old : ∀ b o, s.heap.get? b = some o → ((s.heap.push { cls := .type "list", data := .seq #[] }).update s.heap.objs.size (Obj.mapSeq (fun _ => (#[] : Array Value)))).get? b = some o := fun b o e => oth b o (Nat.ne_of_lt (Heap.lt_size e)) (Heap.get?_push_of_some _ e)
  refine wpAny_bind (wpAny_letGo ?_)
  have lo : s.heap.objs.size ≤ ((s.heap.push { cls := .type "list", data := .seq #[] }).update s.heap.objs.size (Obj.mapSeq (fun _ => (#[] : Array Value)))).objs.size := by
    rw [Heap.size_update, Heap.size_push]; exact Nat.le_succ _
  refine DT.extI (A := A.in1) (es := es) (ep := ep) hh (let ⟨o, ho, x⟩ := hv; ⟨o, old _ _ ho, x⟩) (hm.at' fun o e => old _ _ e) _ (Nat.ne_of_gt hr) (Nat.ne_of_lt hd) .none _ hS₂ (fun h' tk acc' c' as hk hS' hl hG hacc => ?_) hn
  exact ⟨rfl, hQ h' tk acc' c' as (fun b o e => hk b o (Nat.ne_of_lt (Heap.lt_size e)) (old _ _ e)) hS' hl (hG.low lo) hacc⟩
/-- what list, sorted of items ask -/
theorem seq_items {f : SeqF} {x : D} {Q : Post} (h : wpSeq f .items [x] M Q) : ∃ a kvs, x = .ref a ∧ (M a = some (.dct kvs) ∨ M a = some (.dcT kvs)) ∧ ((f = .list ∧ wpNew M (.lst (kvs.map pairD)) Q) ∨ (f = .sorted ∧ PairsOk kvs ∧ wpNew M (.lst ((srtP kvs).map pairD)) Q)) := by
  cases x with
  | ref a =>
    cases g : M a with
    | none => cases f <;> simp only [wpSeq, g] at h
    | some o =>
      cases o with
      | dct kvs =>
        cases f with
        | list => simp only [wpSeq, g] at h; exact ⟨a, kvs, rfl, .inl g, .inl ⟨rfl, h⟩⟩
        | sorted => simp only [wpSeq, g] at h; exact ⟨a, kvs, rfl, .inl g, .inr ⟨rfl, h⟩⟩
        | _ => simp only [wpSeq, g] at h
      | dcT kvs =>
        cases f with
        | list => simp only [wpSeq, g] at h; exact ⟨a, kvs, rfl, .inr g, .inl ⟨rfl, h⟩⟩
        | sorted => simp only [wpSeq, g] at h; exact ⟨a, kvs, rfl, .inr g, .inr ⟨rfl, h⟩⟩
        | _ => simp only [wpSeq, g] at h
      | _ => cases f <;> simp only [wpSeq, g] at h
  | _ => cases f <;> exact h.elim
theorem wpE_mono' {io : E} {Z Z' : Post} (h : wpE P (xat X3 σ3) io σ3 M Z) (e : ∀ x M1, Z x M1 ↔ Z' x M1) : wpE P (xat X3 σ3) io σ3 M Z' := by
  have : Z = Z' := by funext x M1; exact propext (e x M1)
  rw [← this]; exact h
theorem s_listItems {o : Expr} {ap cp p pos : Pos} {io : E} (ok : Ok3 ca X P cc) (hf : cc.glob "list" = some .blt) (hn : noSuper o = true) (hl : (ap.endLine == cp.line) = true) (ho : SndE ca X M0 P X3 o io) :
    SndE ca X M0 P X3 (.Call (.Name "list" p) [.Call (.Attribute o "items" ap) [] [] cp] [] pos) (.seq .list .items (.cons io .nil)) := by
  intro pins s σ H σ3 M Q I hw
  obtain ⟨hg, hl2, hd, hn2⟩ := glob_ok ok hf
  have hw1 : wpE P (xat X3 σ3) io σ3 M fun x M1 => wpSeq .list .items [x] M1 Q := hw
  have hw2 : wpE P (xat X3 σ3) io σ3 M fun x M1 => ∃ a kvs, x = .ref a ∧ (M1 a = some (.dct kvs) ∨ M1 a = some (.dcT kvs)) ∧ wpNew M1 (.lst (kvs.map pairD)) Q := wpE_mono' hw1 fun x M1 => by
    constructor
    · intro h
      obtain ⟨a, kvs, e, g, z⟩ := seq_items h
      rcases z with ⟨_, z⟩ | ⟨z, _⟩
      · exact ⟨a, kvs, e, g, z⟩
      · cases z
    · rintro ⟨a, kvs, e, g, z⟩
      subst e
      rcases g with g | g <;> (simp only [wpSeq, g]; exact z)
  refine wpAny_Call_Name_kw (ld_blt I.inv hg (ok.g.blt _ hl2) (show bootBuiltins "list" = some (.type "list") by decide +kernel) ?_ hn2 hd)
  refine callWith_type1 ?_ (star_ok rfl) rfl
  rw [star_ok (show notStar (.Call (.Attribute o "items" ap) [] [] cp) = true from rfl)]
  show wpAny _ _ (spliced ((false, eval (.Call (.Attribute o "items" ap) [] [] cp) X.env) :: [])) _ _ s
  refine Calls.spliced_cons (ev_items (Z := fun kvs M1 => wpNew M1 (.lst (kvs.map pairD)) Q) hn hl ho I hw2 fun s1 H1 M1 a r kvs es ep I1 st hv hm hz er z => Calls.spliced_nil ?_)
  refine list_items (I1.inv.ok.hd ok.hc) hv hm (by rw [er.1]; exact hz) fun h' tk acc c as kp hS hla G hacc => ?_
  have n0 : H1 s1.heap.objs.size = none := I1.inv.hok.fresh (Nat.le_refl _)
  have rvA : Vals (as.map V.ref) acc.toList := by rw [hacc]; exact L2.vals_refs as
  have J1 : Inv X pins σ (upd H1 s1.heap.objs.size (.lst (as.map V.ref))) { s1 with heap := h', toks := tk } :=
    I1.inv.laid (t' := tk) kp (Nat.le_refl _) ⟨by rw [List.length_map, hla, er.1]; exact hz, acc.toList, c, rvA, by rw [Array.toArray_toList]; exact hS⟩
  obtain ⟨H2, J2, g2, rds⟩ := track I1 J1 (fun b o e => by rw [upd_ne (ne_of_none e n0)]; exact e) (fun b hb => by
    rw [upd_ne (Nat.ne_of_gt (G.above b hb))]
    exact I1.inv.hok.fresh (Nat.le_of_lt (G.above b hb))) hla G er
  have gr : ∀ b o, H1 b = some o → H2 b = some o := fun b o e => g2 b o (by rw [upd_ne (ne_of_none e n0)]; exact e)
  have kk : TupK H1 H2 := ⟨fun a xs e => gr _ _ e, fun a ob u e => gr _ _ e⟩
  have nM : M1 s1.heap.objs.size = none := I1.hp.free n0
  have rm : RM (ct X ca) H2 (mset M1 s1.heap.objs.size (.lst (kvs.map pairD))) := fun b m e => by
    by_cases hb : b = s1.heap.objs.size
    · subst hb
      rw [mset_same] at e
      cases e
      exact ⟨_, g2 _ _ upd_same, rds⟩
    · rw [mset_ne hb] at e
      obtain ⟨u, hu, ro⟩ := I1.hp b m e
      exact ⟨u, gr _ _ hu, ro.keep kk⟩
  have st2 : Stp H1 M1 H2 (mset M1 s1.heap.objs.size (.lst (kvs.map pairD))) := ⟨fun b u e n => ⟨gr _ _ e, by rw [mset_ne (ne_of_none e n0)]; exact n⟩, fun b ob u e => gr _ _ e⟩
  exact ⟨.ref s1.heap.objs.size, _, .ref s1.heap.objs.size, H2, I1.to J2 rm st2, rfl, rfl, st.trans st2, z _ nM⟩
theorem s_sortedItems {o : Expr} {ap cp p pos : Pos} {io : E} (ok : Ok3 ca X P cc) (hf : cc.glob "sorted" = some .blt) (hn : noSuper o = true) (hl : (ap.endLine == cp.line) = true) (ho : SndE ca X M0 P X3 o io) :
    SndE ca X M0 P X3 (.Call (.Name "sorted" p) [.Call (.Attribute o "items" ap) [] [] cp] [] pos) (.seq .sorted .items (.cons io .nil)) := by
  intro pins s σ H σ3 M Q I hw
  obtain ⟨hg, hl2, hd, hn2⟩ := glob_ok ok hf
  have hw1 : wpE P (xat X3 σ3) io σ3 M fun x M1 => wpSeq .sorted .items [x] M1 Q := hw
  have hw2 : wpE P (xat X3 σ3) io σ3 M fun x M1 => ∃ a kvs, x = .ref a ∧ (M1 a = some (.dct kvs) ∨ M1 a = some (.dcT kvs)) ∧ (PairsOk kvs ∧ wpNew M1 (.lst ((srtP kvs).map pairD)) Q) := wpE_mono' hw1 fun x M1 => by
    constructor
    · intro h
      obtain ⟨a, kvs, e, g, z⟩ := seq_items h
      rcases z with ⟨z, _⟩ | ⟨_, z⟩
      · cases z
      · exact ⟨a, kvs, e, g, z⟩
    · rintro ⟨a, kvs, e, g, z⟩
      subst e
      rcases g with g | g <;> (simp only [wpSeq, g]; exact z)
  have hu := ok.hu
  refine wpAny_Call_Name_kw (ld_blt I.inv hg (ok.g.blt _ hl2) (show bootBuiltins "sorted" = some (.builtin "sorted") by decide +kernel) ?_ hn2 hd)
  refine callWith_builtin1 ?_ (star_ok rfl) rfl
  rw [star_ok (show notStar (.Call (.Attribute o "items" ap) [] [] cp) = true from rfl)]
  show wpAny _ _ (spliced ((false, eval (.Call (.Attribute o "items" ap) [] [] cp) X.env) :: [])) _ _ s
  refine Calls.spliced_cons (ev_items (Z := fun kvs M1 => PairsOk kvs ∧ wpNew M1 (.lst ((srtP kvs).map pairD)) Q) hn hl ho I hw2 fun s1 H1 M1 a r kvs es ep I1 st hv hm hz er ⟨zo, z⟩ => Calls.spliced_nil ?_)
  refine DT.sortedI (es := es) (ep := ep) (I1.inv.ok.hd ok.hc) hv hm (by rw [er.1]; exact hz) fun h' tk as kp hlt hla G => ?_
  have J1 : Inv X pins σ H1 { s1 with heap := h', toks := tk } := I1.inv.kept (t' := tk) kp
  obtain ⟨H2, J2, g2, rds⟩ := track I1 J1 (fun b o e => e) (fun b hb => I1.inv.hok.fresh (Nat.le_of_lt (G.above b hb))) hla G er
  have kk : TupK H1 H2 := ⟨fun a xs e => g2 _ _ e, fun a ob u e => g2 _ _ e⟩
  have rm : RM (ct X ca) H2 M1 := fun b m e => by
    obtain ⟨u, hu, ro⟩ := I1.hp b m e
    exact ⟨u, g2 _ _ hu, ro.keep kk⟩
  have st2 : Stp H1 M1 H2 M1 := ⟨fun b u e n => ⟨g2 _ _ e, n⟩, fun b ob u e => g2 _ _ e⟩
  have I2 : I3 (ct X ca) X M0 pins σ3 M1 σ H2 { s1 with heap := h', toks := tk } := I1.to J2 rm st2
  exact thn (sort_pairs (A := X.A.in1) (E := X.xe) ok.sy (by show X.A.units + 1 + 40 < cLine; omega) I2 (L2.vals_refs as) rds (by rw [List.length_map, hla, er.1]; exact hz) zo z) fun _ _ e => ep_st (st.trans st2) e
/-! ### enumerate -/
theorem it_enum {a : Addr} {ds : List D} {H0 : Hp} : ItRel (ct X ca) (Ite X.K a) (enumD ds) (fun M' => M' a = some (.lst ds)) H0 := by
  intro H M k r g
  obtain ⟨xs, hx, rs⟩ := r.lst g
  have hl := rs.length
  have ln : (enumD ds).length = ds.length := by unfold enumD; simp
  refine ⟨fun i d e => ?_, ⟨xs, SqL.of hx, by rw [ln]; omega⟩⟩
  unfold enumD at e
  rw [List.getElem?_map] at e
  cases q : ds.zipIdx[i]? with
  | none => rw [q] at e; cases e
  | some z =>
    rw [q] at e
    cases e
    rw [List.getElem?_zipIdx] at q
    cases q3 : ds[i]? with
    | none => rw [q3] at q; cases q
    | some y =>
      rw [q3] at q
      cases q
      obtain ⟨x, e1, r1⟩ := rs.get q3
      refine ⟨⟨xs, x, SqL.of hx, e1⟩, fun w H' ⟨T, xv, ew, hT, eH, hq⟩ => ?_⟩
      subst ew eH
      have hq' := hq xs (SqL.of hx)
      rw [e1] at hq'
      cases hq'
      exact ⟨r.new0 hT, upd_stp hT, T, _, rfl, .inl upd_same, _, _, rfl, (show V.int ((i : Nat) : Int) = V.int ((0 + i : Nat) : Int) by rw [Nat.zero_add]), _, _, rfl, r1.keep (tupK_new hT), rfl⟩
theorem i_enum {a : Expr} {ie : E} {p pos tpos : Pos} {elts : List Expr} {kk : Nat} (hg : Gl X "enumerate") (hm : X.mg "enumerate" = none) (hn : notStar a = true) (ha : SndEsx ca X M0 P [a] (.cons ie .nil)) : SndI ca X M0 P (.Tuple elts kk tpos) (.Call (.Name "enumerate" p) [a] [] pos) .enumerate (.cons ie .nil) := by
  intro X3 tk pins s σ H σ3 M R I hw
  have hs : starEach [a] X.env = [(false, eval a X.env)] := by rw [star_ok hn]; rfl
  refine thn ((pi_enum hg hm (pa_of (ha X3 tk)) hs).run pins s σ H _ I.inv ⟨σ3, M, _, ⟨I.lo, I.hp, I.st⟩, one_arg hw, fun vs H' ⟨ds, M', r, st, rd, ⟨d, e, q⟩⟩ => ?_⟩) fun v s1 h1 => thn h1 fun itv s2 h2 => it3_of I h2
  subst e
  obtain ⟨y, l, rfl, r1, r2⟩ := rd
  rw [show l = [] from r2]
  cases d with
  | ref a =>
    rw [show y = .ref a from r1]
    cases g : M' a with
    | none => simp only [wpIt, g] at q
    | some o =>
      cases o with
      | lst ds =>
        simp only [wpIt, g] at q
        obtain ⟨xs, hx, rs⟩ := r.lst g
        exact ⟨a, xs, rfl, SqL.of hx, M', enumD ds, fun M' => M' a = some (.lst ds), id, r, st, it_enum, finId, q⟩
      | _ => simp only [wpIt, g] at q
  | _ => exact q.elim
end
end L3
end
section
set_option autoImplicit false
set_option linter.all false
set_option maxRecDepth 100000
/-! L3: dict displays with written texts as keys -/
namespace L3
open PySem L2 PyProof.Rows

section
variable {prog : Program} {w : World} {A : Around} {E : Value → Shared → Prop} {s : Shared}
/-- the display's road: up to 32 pairs -/
theorem forIn_short (f : (Option (Sem Value) × Sem Value) → (Option Addr × List (Sem Value × Sem Value)) → Sem (ForInStep (Option Addr × List (Sem Value × Sem Value)))) (main : Option Addr)
    (hf : ∀ (p : Sem Value × Sem Value) (run : List (Sem Value × Sem Value)), run.length + 1 < 17 → f (some p.1, p.2) (main, run) = pure (.yield (main, run ++ [p]))) :
    ∀ (items run : List (Sem Value × Sem Value)), run.length + items.length < 17 → forIn (items.map fun p => (some p.1, p.2)) (main, run) f = pure (main, run ++ items)
  | [], run, _ => by simp
  | p :: rest, run, h => by
    rw [List.map_cons, List.forIn_cons, hf p run (by simp at h; omega), pure_bind]
    have := forIn_short f main hf rest (run ++ [p]) (by simp at h ⊢; omega)
    simpa using this
theorem forIn_long (f : (Option (Sem Value) × Sem Value) → (Option Addr × List (Sem Value × Sem Value)) → Sem (ForInStep (Option Addr × List (Sem Value × Sem Value))))
    (hf : ∀ (m : Option Addr) (p : Sem Value × Sem Value) (run : List (Sem Value × Sem Value)), run.length + 1 < 17 → f (some p.1, p.2) (m, run) = pure (.yield (m, run ++ [p])))
    (hf2 : ∀ (p : Sem Value × Sem Value) (run : List (Sem Value × Sem Value)), run.length + 1 = 17 → f (some p.1, p.2) (none, run) = (do let d ← subDict (run ++ [p]); pure (.yield (some d, []))))
    (l2 : List (Sem Value × Sem Value)) (h2 : l2.length < 17) : ∀ (l1 run : List (Sem Value × Sem Value)), run.length + l1.length = 17 → 0 < l1.length → forIn ((l1 ++ l2).map fun p => (some p.1, p.2)) ((none : Option Addr), run) f = (do let d ← subDict (run ++ l1); pure (some d, l2))
  | [], run, _, h0 => by simp at h0
  | p :: rest, run, h, _ => by
    rw [List.cons_append, List.map_cons, List.forIn_cons]
    by_cases hr : rest = []
    · subst hr
      rw [hf2 p run (by simpa using h)]
      simp only [bind_assoc, pure_bind, List.nil_append]
      congr 1
      funext d
      have := forIn_short f (some d) (hf (some d)) l2 [] (by simpa using h2)
      simpa using this
    · have hl : 0 < rest.length := List.length_pos_iff.mpr hr
      rw [hf none p run (by simp at h; omega), pure_bind]
      have := forIn_long f hf hf2 l2 h2 rest (run ++ [p]) (by simp at h ⊢; omega) hl
      simpa using this
theorem dictDisplay_long (l1 l2 : List (Sem Value × Sem Value)) (h1 : l1.length = 17) (h2 : l2.length < 17) (h0 : l2 ≠ []) :
    dictDisplay ((l1 ++ l2).map fun p => (some p.1, p.2)) = (do
      let d ← subDict l1
      let sub ← holding [.ref d] (subDict l2)
      (holding [.ref d, .ref sub] (mergeMapping d (.ref sub) false)).onRaise fun x => do let _ ← holding [.ref d, x] (runValue (.builtin "proto.let_go" {}))
      pure (.ref d)) := by
  unfold dictDisplay
  dsimp only
  rw [forIn_long _ (fun m p run h => by
    have hne : ((run ++ [(p.1, p.2)]).length == 17) = false := by simp; omega
    simp only [hne, Bool.false_eq_true, if_false]) (fun p run h => by
    have hne : ((run ++ [(p.1, p.2)]).length == 17) = true := by simp; omega
    simp only [hne, if_true]
    simp) l2 h2 l1 [] (by simpa using h1) (by omega)]
  simp [h0]

variable {K : Type} [DecidableEq K] {knd : PySem.KeyKind prog w K}
theorem dictPut_pairs {d : Addr} {kvs : List (K × Value)} {k : K} {key v : Value} {Q : Unit → Shared → Prop} (hkey : knd.is k key = true) (hm : s.heap.DictOf knd d kvs) (hnot : k ∉ kvs.map (·.1))
    (hQ : ∀ h', h'.DictOf knd d (kvs ++ [(k, v)]) → Heap.SameBut d s.heap h' → Q () { s with heap := h' })
    (hsz : kvs.length ≤ sizeLine) :
    wpAny (model prog w) A (dictPut d (knd.hash k) key v) Q E s := by
  obtain ⟨o, es, ep, ho, hc, hd, hk, hp, hn⟩ := hm
  have hes : es.size ≤ sizeLine := by have e1 := hp.length; have e2 : es.toList.length = es.size := by simp
                                      omega
  unfold dictPut
  refine wpAny_bind (wpAny_dictFind_of hkey ho hd hk ?_)
  have hidx : (es.findIdx? fun e => knd.is k e.key) = kvs.findIdx? fun kv => decide (kv.1 = k) := by
    rw [← hp.findIdx k]; obtain ⟨l⟩ := es; simp
  cases hi : es.findIdx? fun e => knd.is k e.key with
  | some i =>
    exfalso
    have := any_of_findIdx_some (hidx ▸ hi)
    rw [List.any_eq_true] at this
    obtain ⟨kv, hkv, he⟩ := this
    exact hnot (List.mem_map.mpr ⟨kv, hkv, of_decide_eq_true he⟩)
  | none =>
    refine wpAny_updateDictKeys (hz := hes) ho hd (hQ _ ⟨_, _, ep + 1, Heap.get?_update_self _ ho (Obj.isFreed_of_dict (Obj.data_mapDictKeys hd _)),
      hc.mapDictKeys _, Obj.data_mapDictKeys hd _, hk.push hkey _, ?_, ?_⟩ (Heap.SameBut.update ..))
    · have := hp.append hkey (knd.hash k) v
      obtain ⟨l⟩ := es
      simpa using this
    · rw [List.map_append, List.nodup_append]
      refine ⟨hn, by simp, ?_⟩
      intro a ha b hb
      simp only [List.map_cons, List.map_nil, List.mem_singleton] at hb
      subst hb
      exact fun e => hnot (e ▸ ha)
theorem pairs_at : ∀ {es : List DictEntry} {ms : List (K × Value)} {i : Nat} {en : DictEntry} {kv : K × Value}, Pairs knd es ms → es[i]? = some en → ms[i]? = some kv → knd.is kv.1 en.key = true ∧ en.val = kv.2
  | _, _, 0, _, _, .cons h1 h2 _, e1, e2 => by cases e1; cases e2; exact ⟨h1, h2⟩
  | _, _, i + 1, _, _, .cons _ _ t, e1, e2 => pairs_at t (i := i) (by simpa using e1) (by simpa using e2)
  | _, _, _, _, _, .nil, e1, _ => by simp at e1
/-- sub's pairs behind d's: none of the same key -/
theorem merge_pairs {d a : Addr} {kvs ms : List (K × Value)} {Q : Unit → Shared → Prop} (hda : d ≠ a) (ha : (a == sysModules) = false) (hd : s.heap.DictOf knd d kvs) (hm : s.heap.DictOf knd a ms) (h0 : kvs ≠ []) (hz : kvs.length + ms.length ≤ sizeLine)
    (hn : ((kvs ++ ms).map (·.1)).Nodup) (hQ : ∀ h', h'.DictOf knd d (kvs ++ ms) → Heap.SameBut d s.heap h' → Q () { s with heap := h' }) : wpAny (model prog w) A (mergeMapping d (.ref a) false) Q E s := by
  obtain ⟨oa, esa, epa, hoa, hca, hda', hka, hpa, hna⟩ := id hm
  obtain ⟨od, esd, epd, hod, hcd, hdd, hkd, hpd, hnd⟩ := id hd
  unfold mergeMapping
  have b1 : (some (Value.builtin "dict.__iter__") == some (Value.builtin "dict.__iter__")) = true := by decide
  refine wpAny_bind (wpAny_isInstance hm.typeIs isSubtype_dict_dict ?_)
  rw [if_pos (rfl : true = true)]
  refine wpAny_bind (wpAny_specialOf (name := Str.ofString "__iter__") hm.typeIs PySem.F.slot_dict_iter.lookup ?_)
  rw [b1]
  refine wpAny_bind (wpAny_pure ?_)
  dsimp only
  rw [if_neg (by rw [ha]; exact Bool.false_ne_true)]
  refine wpAny_bind (wpAny_dictEntries hod hdd ?_)
  have e0 : esd.isEmpty = false := by
    have l1 : esd.toList.length = kvs.length := hpd.length
    have : esd.isEmpty = decide (esd.size = 0) := rfl
    rw [this]
    have l2 : esd.toList.length = esd.size := Array.length_toList
    have l3 : 0 < kvs.length := List.length_pos_iff.mpr h0
    rw [decide_eq_false_iff_not]; omega
  rw [if_neg (by rw [e0]; exact Bool.false_ne_true)]
  refine wpAny_bind (wpAny_dictEntries hoa hda' ?_)
  refine wpAny_bind (wpAny_dictEpoch hoa hda' ?_)
  have lm : esa.size = ms.length := by rw [← hpa.length, Array.length_toList]
  have key : ∀ (n i : Nat) (s' : Shared), i + n = esa.size → s'.heap.get? a = some oa → s'.heap.DictOf knd d (kvs ++ ms.take i) → Heap.SameBut d s.heap s'.heap → s' = { s with heap := s'.heap } →
      wpAny (model prog w) A (forIn (List.range' i n) PUnit.unit fun i (_ : PUnit) => do
        let __do_lift ← dictEntries a
        match __do_lift[i]? with
          | some e => do
            holding [e.key, e.val] (dictPut d e.hash e.key e.val)
            let __do_lift ← dictEpoch a
            if (__do_lift != epa) = true then do
                unsupported "dict.changed-during-merge"
                pure (ForInStep.yield PUnit.unit)
              else pure (ForInStep.yield PUnit.unit)
          | x => do
            unsupported "dict.changed-during-merge"
            pure (ForInStep.yield PUnit.unit)) (fun _ s'' => wpAny (model prog w) A (pure ()) Q E s'') E s' := by
    intro n
    induction n with
    | zero =>
      intro i s' hi h1 h2 h3 h4
      have : ms.take i = ms := List.take_of_length_le (by omega)
      rw [this] at h2
      rw [List.range'_zero, List.forIn_nil]
      refine wpAny_pure (wpAny_pure ?_)
      rw [h4]
      exact hQ _ h2 h3
    | succ n ih =>
      intro i s' hi h1 h2 h3 h4
      rw [List.range'_succ, List.forIn_cons]
      have hlt : i < esa.size := by omega
      have hlm : i < ms.length := by omega
      refine wpAny_bind (wpAny_bind (wpAny_dictEntries h1 hda' ?_))
      rw [Array.getElem?_eq_getElem hlt]
      dsimp only
      obtain ⟨hh, hk1, hk2⟩ : (esa[i]).hash = knd.hash (ms[i]).1 ∧ knd.is (ms[i]).1 (esa[i]).key = true ∧ (esa[i]).val = (ms[i]).2 := by
        obtain ⟨g1, g2⟩ := pairs_at hpa (i := i) (en := esa[i]) (kv := ms[i]) (by rw [Array.getElem?_toList]; exact Array.getElem?_eq_getElem hlt) (List.getElem?_eq_getElem hlm)
        obtain ⟨k, q1, q2⟩ := hka _ (Array.getElem_mem hlt)
        rw [knd.inj _ _ _ q1 g1] at q2
        exact ⟨q2, g1, g2⟩
      have hnk : (ms[i]).1 ∉ (kvs ++ ms.take i).map (·.1) := by
        have hn2 : ((kvs ++ ms.take i ++ ms.drop i).map (·.1)).Nodup := by rw [List.append_assoc, List.take_append_drop]; exact hn
        rw [List.map_append, List.nodup_append] at hn2
        intro hc
        refine hn2.2.2 _ hc (ms[i]).1 ?_ rfl
        rw [List.drop_eq_getElem_cons hlm]
        exact List.mem_cons_self
      rw [hh]
      refine wpAny_bind (wpAny_holding (dictPut_pairs hk1 h2 hnk (fun h' d1 d2 => ?_) (by rw [List.length_append, List.length_take]; omega)))
      have h5 : h'.get? a = some oa := (d2.2 a (Ne.symm hda)).trans h1
      refine wpAny_bind (wpAny_dictEpoch (s := { s' with heap := h' }) h5 hda' ?_)
      have e1 : (epa != epa) = false := by simp
      simp only [e1, Bool.false_eq_true, if_false]
      refine wpAny_pure ?_
      dsimp only
      refine ih (i + 1) _ (by omega) h5 ?_ ⟨d2.1.trans h3.1, fun b hb => (d2.2 b hb).trans (h3.2 b hb)⟩ (by rw [h4])
      · rw [List.take_succ, List.getElem?_eq_getElem hlm, ← List.append_assoc]
        rw [hk2] at d1
        exact d1
  rw [List.range_eq_range']
  exact wpAny_bind (key esa.size 0 s (by omega) hoa (by simpa using hd) ⟨rfl, fun _ _ => rfl⟩ rfl)
end

section
variable {ca : Nat → Addr} {X : Cx} {M0 M : Mp} {pins : List (Addr × Obj)} {σ3 : Lo} {σ : L2.St} {H : Hp} {s : Shared} {P : Pr} {cc : CC} {X3 : Xs}
/-- a display's pairs come -/
inductive SndPs (ca : Nat → Addr) (X : Cx) (M0 : Mp) (P : Pr) (X3 : Xs) : List (Option Expr) → List Expr → Es → Prop where
  | nil : SndPs ca X M0 P X3 [] [] .nil
  | cons {x : Str} {j : Nat} {p : Pos} {v : Expr} {iv : E} {ks : List (Option Expr)} {vs : List Expr} {es : Es} : SndE ca X M0 P X3 v iv → SndPs ca X M0 P X3 ks vs es → SndPs ca X M0 P X3 (some (.Constant (.str x) j p) :: ks) (v :: vs) (.cons (.str x) (.cons iv es))
inductive TPs (ca : Nat → Addr) (X : Cx) (M0 : Mp) (P : Pr) (X3 : Xs) : List (Sem Value × Sem Value) → List Str → Es → Prop where
  | nil : TPs ca X M0 P X3 [] [] .nil
  | cons {x : Str} {j : Nat} {p pos : Pos} {v : Expr} {iv : E} {ps : List (Sem Value × Sem Value)} {xs : List Str} {es : Es} : SndE ca X M0 P X3 v iv → TPs ca X M0 P X3 ps xs es → TPs ca X M0 P X3 ((eval (.Constant (.str x) j p) X.env, do let y ← eval v X.env; standAt pos; pure y) :: ps) (x :: xs) (.cons (.str x) (.cons iv es))
theorem SndPs.tps (pos : Pos) : ∀ {ks : List (Option Expr)} {vs : List Expr} {es : Es}, SndPs ca X M0 P X3 ks vs es → TPs ca X M0 P X3 (pairTrees ks vs X.env pos) (keyTxts ks) es ∧ ks.all (·.isSome) = true ∧ ks.length = vs.length
  | _, _, _, .nil => ⟨.nil, rfl, rfl⟩
  | _, _, _, .cons h t => ⟨.cons h (t.tps pos).1, by have := (t.tps pos).2.1; simpa using this, by have := (t.tps pos).2.2; simpa using this⟩
def flatP (kvs : List (D × D)) : List D := kvs.flatMap fun p => [p.1, p.2]
theorem pairs_flat : ∀ (kvs : List (D × D)), pairsD (flatP kvs) = some kvs
  | [] => rfl
  | (k, v) :: r => by
    show (pairsD (flatP r)).map ((k, v) :: ·) = _
    rw [pairs_flat r]
    rfl
/-- the dict at d is being built: Hb, Mb are from ahead of it -/
structure Bld (ca : Nat → Addr) (X : Cx) (M0 : Mp) (pins : List (Addr × Obj)) (σ3 : Lo) (σ : L2.St) (Hb : Hp) (Mb : Mp) (ds : List Addr) (M : Mp) (H : Hp) (s : Shared) : Prop where
  I : I3 (ct X ca) X M0 pins σ3 M σ H s
  st : Stp Hb Mb H M
  nb : ∀ d ∈ ds, Hb d = none
  n0 : ∀ d ∈ ds, ∀ o, X.H_0 d = some o → M0 d = none → False
  nf : ∀ d ∈ ds, ∀ o u, X.H_0 d ≠ some (.frz o u)
  nM : ∀ d ∈ ds, M d = none
/-- what is at d -/
def DAt (C : Ct) (H : Hp) (d : Addr) (acc : List (D × D)) : Prop := ∃ ks, H d = some (.dK ks) ∧ PD C H acc ks
variable {Hb : Hp} {Mb : Mp} {ds : List Addr}
theorem DAt.keep {C : Ct} {H H' : Hp} {M M' : Mp} {d : Addr} {acc : List (D × D)} (r : RM C H M) (h : DAt C H d acc) (n : M d = none) (st : Stp H M H' M') : DAt C H' d acc := by
  obtain ⟨ks, e, pd⟩ := h
  exact ⟨ks, (st.1 d _ e n).1, PD.keep (st.tupK r) pd⟩
/-- from one state to the next -/
theorem Bld.to (b : Bld ca X M0 pins σ3 σ Hb Mb ds M H s) {M' : Mp} {H' : Hp} {s' : Shared} (I' : I3 (ct X ca) X M0 pins σ3 M' σ H' s') (st : Stp H M H' M') (ht : ∀ d ∈ ds, ∃ o, H d = some o) : Bld ca X M0 pins σ3 σ Hb Mb ds M' H' s' :=
  ⟨I', b.st.trans st, b.nb, b.n0, b.nf, fun d hd => by obtain ⟨o, e⟩ := ht d hd; exact (st.1 d o e (b.nM d hd)).2⟩
/-- the dict is written -/
theorem Bld.wr (b : Bld ca X M0 pins σ3 σ Hb Mb ds M H s) {d : Addr} (hd : d ∈ ds) {ks ks' : List (Key × V)} (e : H d = some (.dK ks)) {s' : Shared} (J : Inv X pins σ (upd H d (.dK ks')) s') : Bld ca X M0 pins σ3 σ Hb Mb ds M (upd H d (.dK ks')) s' := by
  have kw : TupK H (upd H d (.dK ks')) := tupK_set e (fun _ z => nomatch z) (fun _ _ z => nomatch z)
  refine ⟨⟨J, b.I.lo.keep kw, fun a m h => ?_, fun a o h n => ?_, fun a ob u h => ?_⟩, ⟨fun a o h n => ?_, fun a ob u h => ?_⟩, b.nb, b.n0, b.nf, b.nM⟩
  · have ne : a ≠ d := by rintro rfl; rw [b.nM _ hd] at h; cases h
    obtain ⟨u, hu, ro⟩ := b.I.hp a m h
    exact ⟨u, by rw [upd_ne ne]; exact hu, ro.keep kw⟩
  · have ne : a ≠ d := by rintro rfl; exact b.n0 _ hd o h n
    obtain ⟨g1, g2⟩ := b.I.st.1 a o h n
    exact ⟨by rw [upd_ne ne]; exact g1, g2⟩
  · have ne : a ≠ d := by rintro rfl; exact b.nf _ hd _ _ h
    rw [upd_ne ne]; exact b.I.st.2 a ob u h
  · have ne : a ≠ d := by rintro rfl; rw [b.nb _ hd] at h; cases h
    obtain ⟨g1, g2⟩ := b.st.1 a o h n
    exact ⟨by rw [upd_ne ne]; exact g1, g2⟩
  · have ne : a ≠ d := by rintro rfl; rw [b.nb _ hd] at h; cases h
    rw [upd_ne ne]; exact b.st.2 a ob u h
theorem DAt.other {C : Ct} {d d' : Addr} {acc : List (D × D)} {ks ks' : List (Key × V)} (h : DAt C H d' acc) (e : H d = some (.dK ks)) (ne : d' ≠ d) : DAt C (upd H d (.dK ks')) d' acc := by
  have kw : TupK H (upd H d (.dK ks')) := tupK_set e (fun _ z => nomatch z) (fun _ _ z => nomatch z)
  obtain ⟨ks2, e2, pd⟩ := h
  exact ⟨ks2, by rw [upd_ne ne]; exact e2, PD.keep kw pd⟩
theorem keys_no {C : Ct} : ∀ {acc : List (D × D)} {ks : List (Key × V)} {x : Str}, PD C H acc ks → (∀ p ∈ acc, p.1 ≠ D.str x) → valV ks (Sum.inr x) = none
  | _, _, _, .nil, _ => rfl
  | _, _, x, .cons (a := p) (b := q) h t, hn => by
    have ne : q.1 ≠ Sum.inr x := fun e => by
      have h1 := h.1
      rw [e] at h1
      have hp := hn p List.mem_cons_self
      cases hpk : p.1 with
      | str z =>
        rw [hpk] at h1
        have : z = x := h1
        subst this
        exact hp hpk
      | int i => rw [hpk] at h1; exact h1.elim
      | _ => rw [hpk] at h1; exact h1.elim
    rw [valV_neg ne]
    exact keys_no t fun p hp => hn p (List.mem_cons_of_mem _ hp)
/-- one pair is put at the end -/
theorem put_one {d : Addr} {acc : List (D × D)} {x : Str} {y : D} {yv : V} {u ku : Value} {Q : Unit → Shared → Prop} (b : Bld ca X M0 pins σ3 σ Hb Mb ds M H s) (hd : d ∈ ds) (at_ : DAt (ct X ca) H d acc) (hn : ∀ p ∈ acc, p.1 ≠ D.str x) (hl : acc.length < 100) (ry : RD (ct X ca) H y yv) (ru : RelV yv u) (hk : RelV (.str x) ku)
    (h : ∀ H' s', Bld ca X M0 pins σ3 σ Hb Mb ds M H' s' → DAt (ct X ca) H' d (acc ++ [(D.str x, y)]) → (∀ d' acc', d' ≠ d → DAt (ct X ca) H d' acc' → DAt (ct X ca) H' d' acc') → Q () s') {A : Around} {E : Value → Shared → Prop} : wpAny (model X.prog X.w) A (dictSet d ku u) Q E s := by
  obtain ⟨ks, e, pd⟩ := at_
  obtain ⟨z, hs, vs, rel, dd⟩ := dk_of b.I.inv.hok e
  have l1 : acc.length = ks.length := pd.len
  have l2 : ks.length = vs.length := rel.length
  have hk2 : (mixKind X.prog X.w).is (Sum.inr x) ku = true := kV_is (show RelV (kV (Sum.inr x)) ku from hk)
  refine wpAny_dictSet_pairs (hsz := by rw [sizeLine_eq]; omega) hk2 dd fun h' dd' sb => ?_
  have hnone := keys_no pd hn
  have pe : putK ks (Sum.inr x) yv = ks ++ [(Sum.inr x, yv)] := putK_new yv hnone
  have he : ∃ q, h'.get? d = some q := let ⟨q, _, _, hq, _⟩ := dd'; ⟨q, hq⟩
  have J : Inv X pins σ (upd H d (.dK (putK ks (Sum.inr x) yv))) { s with heap := h', toks := s.toks + 1 } :=
    d_write b.I.inv (by rw [e]; exact True.intro) sb he (dk_new (by have := length_putK ks (Sum.inr x) yv; rw [sizeLine_eq]; omega) hs (rel.put (Sum.inr x) ru) dd')
  have kw : TupK H (upd H d (.dK (putK ks (Sum.inr x) yv))) := tupK_set e (fun _ z => nomatch z) (fun _ _ z => nomatch z)
  rw [pe] at J kw
  refine h _ _ (b.wr hd e J) ⟨_, upd_same, ?_⟩ fun d' acc' ne hh => hh.other e ne
  exact PD.keep kw (pd_app pd (Paired.cons (a := (D.str x, y)) (b := ((Sum.inr x : Key), yv)) ⟨(show KRel (D.str x) (Sum.inr x) from rfl), ry⟩ .nil))
/-- the pairs of a long display -/
theorem run_long {A : Around} (hA : A = X.A) {d : Addr} : ∀ (ps1 : List (Sem Value × Sem Value)) {ps2 : List (Sem Value × Sem Value)} {xs : List Str} {es : Es} {M : Mp} {H : Hp} {s : Shared} {acc : List (D × D)} {Q : List D → Mp → Prop}, TPs ca X M0 P X3 (ps1 ++ ps2) xs es → Bld ca X M0 pins σ3 σ Hb Mb [d] M H s → DAt (ct X ca) H d acc →
    xs.Nodup → (∀ p ∈ acc, ∀ x ∈ xs, p.1 ≠ D.str x) → acc.length + xs.length ≤ 60 → wpEs P (xat X3 σ3) es σ3 M Q →
    wpAny (model X.prog X.w) A (forIn ps1 PUnit.unit fun (x : Sem Value × Sem Value) (_ : PUnit) => match x with | (k, v) => do
        let kv ← k
        let vv ← holding [kv] v
        holding [kv, vv] (dictSet d kv vv)
        pure (ForInStep.yield PUnit.unit)) (fun _ s' => ∃ xs2 es2 done M' H', TPs ca X M0 P X3 ps2 xs2 es2 ∧ Bld ca X M0 pins σ3 σ Hb Mb [d] M' H' s' ∧ DAt (ct X ca) H' d (acc ++ done) ∧ xs2.Nodup ∧ (∀ p ∈ acc ++ done, ∀ x ∈ xs2, p.1 ≠ D.str x) ∧ (acc ++ done).length + xs2.length ≤ 60 ∧ done.length = ps1.length ∧
      wpEs P (xat X3 σ3) es2 σ3 M' fun ds M2 => Q (flatP done ++ ds) M2) X.xe s
  | [], ps2, xs, es, M, H, s, acc, Q, tp, b, at_, nd, hn, hl, hw => by
    rw [List.forIn_nil]
    refine wpAny_pure ⟨xs, es, [], M, H, tp, b, by simpa using at_, nd, by simpa using hn, by simpa using hl, rfl, hw⟩
  | p :: ps1, ps2, xs, es, M, H, s, acc, Q, tp, b, at_, nd, hn, hl, hw => by
    subst hA
    rw [List.cons_append] at tp
    cases tp with
    | @cons x j pp pos v iv _ xs es hv t =>
      rw [List.forIn_cons]
      dsimp only
      rw [List.nodup_cons] at nd
      refine wpAny_bind (wpAny_bind (thn (s_str (M0 := M0) (P := P) (X3 := X3) pins s σ H σ3 M (fun d M1 => d = .str x ∧ M1 = M) b.I ⟨rfl, rfl⟩) fun kv s1 ⟨dk, M1, kvv, H1, I1, rk, rdk, st1, e1, e2⟩ => ?_))
      subst e1 e2
      have ek : kvv = .str x := rdk
      subst ek
      have there : ∀ d' ∈ [d], ∃ o, H d' = some o := fun d' hd' => by
        rw [List.mem_singleton] at hd'; subst hd'
        obtain ⟨ks, e, _⟩ := at_
        exact ⟨_, e⟩
      have b1 := b.to I1 st1 there
      have at1 := at_.keep b.I.hp (b.nM d (List.mem_singleton.mpr rfl)) st1
      have there1 : ∀ d' ∈ [d], ∃ o, H1 d' = some o := fun d' hd' => by
        rw [List.mem_singleton] at hd'; subst hd'
        obtain ⟨ks, e, _⟩ := at1
        exact ⟨_, e⟩
      have hw' : wpE P (xat X3 σ3) iv σ3 M1 fun y M2 => wpEs P (xat X3 σ3) es σ3 M2 fun ds M3 => Q (.str x :: y :: ds) M3 := hw
      refine wpAny_bind (wpAny_holding (wpAny_bind (thn (hv pins s1 σ H1 σ3 M1 _ I1 hw') fun vv s2 ⟨y, M2, yv, H2, I2, r2, rd2, st2, hw2⟩ => wpAny_bind (wpAny_standAt (wpAny_pure ?_)))))
      have b2 := b1.to I2 st2 there1
      have at2 := at1.keep I1.hp (b1.nM d (List.mem_singleton.mpr rfl)) st2
      refine wpAny_bind (wpAny_holding (put_one b2 (List.mem_singleton.mpr rfl) at2 (fun p hp => hn p hp x List.mem_cons_self) (by simp at hl; omega) rd2 r2 rk fun H3 s3 b3 at3 _ => ?_))
      refine wpAny_pure ?_
      dsimp only
      refine thn (run_long rfl ps1 t b3 at3 nd.2 (fun p hp z hz => ?_) (by simp at hl ⊢; omega) hw2) fun _ s4 ⟨xs2, es2, done, M4, H4, t4, b4, at4, n4, hn4, hl4, ld, w4⟩ => ?_
      · rcases List.mem_append.mp hp with hp | hp
        · exact hn p hp z (List.mem_cons_of_mem _ hz)
        · rw [List.mem_singleton] at hp
          subst hp
          intro e
          cases e
          exact nd.1 hz
      · refine ⟨xs2, es2, (D.str x, y) :: done, M4, H4, t4, b4, ?_, n4, ?_, ?_, by rw [List.length_cons, List.length_cons, ld], w4⟩
        · rw [List.append_assoc] at at4
          exact at4
        · rw [List.append_assoc] at hn4
          exact hn4
        · rw [List.append_assoc] at hl4
          exact hl4

/-- what a short display's pairs are -/
def strK (done : List (D × D)) (vs : List V) : List (Key × V) := (done.zip vs).map fun p => ((match p.1.1 with | .str x => Sum.inr x | _ => Sum.inl 0), p.2)
theorem run_short {A : Around} (hA : A = X.A) : ∀ {ps : List (Sem Value × Sem Value)} {xs : List Str} {es : Es} {M : Mp} {H : Hp} {s : Shared} {Q : List D → Mp → Prop} {Z : List (Value × Value) → Shared → Prop}, TPs ca X M0 P X3 ps xs es → Bld ca X M0 pins σ3 σ Hb Mb ds M H s → (∀ d ∈ ds, ∃ o, H d = some o) → wpEs P (xat X3 σ3) es σ3 M Q →
    (∀ (ws : List (Value × Value)) (s' : Shared) (done : List (D × D)) (vs : List V) (M' : Mp) (H' : Hp), Bld ca X M0 pins σ3 σ Hb Mb ds M' H' s' → Stp H M H' M' → done.map (·.1) = xs.map D.str → RDs (ct X ca) H' (done.map (·.2)) vs → VV (((xs.zip vs).map fun p => ((Sum.inr p.1 : Key), p.2)).map fun kv => (kV kv.1, kv.2)) ws → Q (flatP done) M' → Z ws s') →
    wpAny (model X.prog X.w) X.A (evalPairs ps) Z X.xe s
  | _, _, _, M, H, s, Q, Z, .nil, b, ht, hw, z => evalPairs_nil (z [] s [] [] M H b Stp.refl rfl rfl .nil hw)
  | _, _, _, M, H, s, Q, Z, .cons (x := x) (v := v) (iv := iv) (es := es) hv t, b, ht, hw, z => by
    subst hA
    refine evalPairs_cons (thn (s_str (M0 := M0) (P := P) (X3 := X3) pins s σ H σ3 M (fun d M1 => d = .str x ∧ M1 = M) b.I ⟨rfl, rfl⟩) fun kv s1 ⟨dk, M1, kvv, H1, I1, rk, rdk, st1, e1, e2⟩ => ?_)
    subst e1 e2
    have ek : kvv = .str x := rdk
    subst ek
    have b1 := b.to I1 st1 ht
    have ht1 : ∀ d ∈ ds, ∃ o, H1 d = some o := fun d hd => by
      obtain ⟨o, e⟩ := ht d hd
      exact ⟨o, (st1.1 d o e (b.nM d hd)).1⟩
    have hw' : wpE P (xat X3 σ3) iv σ3 M1 fun y M2 => wpEs P (xat X3 σ3) es σ3 M2 fun ds M3 => Q (.str x :: y :: ds) M3 := hw
    refine wpAny_bind (thn (hv pins s1 σ H1 σ3 M1 _ I1 hw') fun vv s2 ⟨y, M2, yv, H2, I2, r2, rd2, st2, hw2⟩ => wpAny_bind (wpAny_standAt (wpAny_pure ?_)))
    have b2 := b1.to I2 st2 ht1
    have ht2 : ∀ d ∈ ds, ∃ o, H2 d = some o := fun d hd => by
      obtain ⟨o, e⟩ := ht1 d hd
      exact ⟨o, (st2.1 d o e (b1.nM d hd)).1⟩
    refine run_short rfl t b2 ht2 hw2 fun ws s3 done vs M3 H3 b3 st3 h1 h2 h3 q => ?_
    refine z _ s3 ((D.str x, y) :: done) (yv :: vs) M3 H3 b3 ((st1.trans st2).trans st3) ?_ ⟨yv, vs, rfl, rd2.keep (st3.tupK I2.hp), h2⟩ (.cons ⟨rk, r2⟩ h3) q
    show D.str x :: done.map (·.1) = D.str x :: _
    rw [h1]
theorem zip_strK {C : Ct} : ∀ {done : List (D × D)} {xs : List Str} {vs : List V}, done.map (·.1) = xs.map D.str → RDs C H (done.map (·.2)) vs → PD C H done ((xs.zip vs).map fun p => ((Sum.inr p.1 : Key), p.2))
  | [], [], vs, _, _ => .nil
  | (a, b) :: done, x :: xs, vs, h, r => by
    obtain ⟨v, l, rfl, r1, r2⟩ := r
    have h' : a :: done.map (·.1) = D.str x :: xs.map D.str := h
    injection h' with h1 h2
    subst h1
    exact .cons ⟨(show KRel (D.str x) (Sum.inr x) from rfl), r1⟩ (zip_strK h2 r2)
  | [], x :: xs, vs, h, _ => by cases h
  | _ :: _, [], vs, h, _ => by cases h
theorem merged_new {K : Type} [DecidableEq K] : ∀ (ms kvs : List (K × Value)), ((kvs ++ ms).map (·.1)).Nodup → merged kvs ms = kvs ++ ms
  | [], kvs, _ => by simp [merged]
  | m :: ms, kvs, h => by
    have e : stored kvs m.1 m.2 = kvs ++ [m] := by
      unfold stored
      rw [if_neg]
      intro hc
      rw [List.any_eq_true] at hc
      obtain ⟨q, hq, e⟩ := hc
      rw [List.map_append, List.nodup_append] at h
      exact h.2.2 q.1 (List.mem_map.mpr ⟨q, hq, rfl⟩) m.1 (by simp) (of_decide_eq_true e)
    show merged (stored kvs m.1 m.2) ms = _
    rw [e, merged_new ms (kvs ++ [m]) (by simpa using h)]
    simp

/-- an empty dict is laid -/
theorem bld_new (I : I3 (ct X ca) X M0 pins σ3 M σ H s) : Bld ca X M0 pins σ3 σ H M [s.heap.objs.size] M (upd H s.heap.objs.size (.dK [])) { s with heap := s.heap.push { cls := .type "dict", data := .dict #[] } } ∧ DAt (ct X ca) (upd H s.heap.objs.size (.dK [])) s.heap.objs.size [] := by
  have n1 : H s.heap.objs.size = none := I.inv.hok.fresh (Nat.le_refl _)
  have nM : M s.heap.objs.size = none := I.hp.free n1
  have J := I.inv.laid (a := s.heap.objs.size) (o := .dK []) (h' := s.heap.push { cls := .type "dict", data := .dict #[] }) (t' := s.toks) (fun _ _ q => Heap.get?_push_of_some _ q) (Nat.le_refl _) (dk_empty s.heap I.inv.big)
  have one : ∀ d ∈ [s.heap.objs.size], d = s.heap.objs.size := fun d hd => List.mem_singleton.mp hd
  refine ⟨⟨I.to J (I.hp.new0 n1) (upd_stp n1), upd_stp n1, ?_, ?_, ?_, ?_⟩, [], upd_same, .nil⟩
  · intro d hd
    rw [one d hd]; exact n1
  · intro d hd o h n
    rw [one d hd] at h n
    have := (I.st.1 _ o h n).1
    rw [n1] at this
    cases this
  · intro d hd o u h
    rw [one d hd] at h
    have := I.st.2 _ o u h
    rw [n1] at this
    cases this
  · intro d hd
    rw [one d hd]; exact nM
/-- the dict is told -/
theorem bld_end {d : Addr} {acc : List (D × D)} {Q : Post} (b : Bld ca X M0 pins σ3 σ Hb Mb [d] M H s) (at_ : DAt (ct X ca) H d acc) (q : wpNew M (.dct acc) Q) : EP3 (ct X ca) X M0 pins σ3 σ Hb Mb Q (.ref d) s := by
  have hm : d ∈ [d] := List.mem_singleton.mpr rfl
  obtain ⟨ks, e, pd⟩ := at_
  have nM := b.nM d hm
  have rm : RM (ct X ca) H (mset M d (.dct acc)) := fun a m h => by
    by_cases ha : a = d
    · subst ha
      rw [mset_same] at h
      cases h
      exact ⟨_, e, ks, rfl, pd⟩
    · rw [mset_ne ha] at h
      exact b.I.hp a m h
  have up : ∀ {Ha : Hp} {Ma : Mp}, Stp Ha Ma H M → (∀ o, Ha d = some o → Ma d = none → False) → Stp Ha Ma H (mset M d (.dct acc)) := fun {Ha Ma} z hn => ⟨fun a o h1 h2 => by
    obtain ⟨g1, g2⟩ := z.1 a o h1 h2
    have ne : a ≠ d := by rintro rfl; exact hn o h1 h2
    exact ⟨g1, by rw [mset_ne ne]; exact g2⟩, z.2⟩
  exact ⟨.ref d, _, .ref d, H, ⟨b.I.inv, b.I.lo, rm, up b.I.st (b.n0 d hm)⟩, rfl, rfl, up b.st fun o h _ => (by rw [b.nb d hm] at h; cases h), q d nM⟩
theorem kv_app : ∀ {a b : List (Key × V)} {c d : List (Key × Value)}, KV a c → KV b d → KV (a ++ b) (c ++ d)
  | _, _, _, _, .nil, h => h
  | _, _, _, _, .cons r t, h => .cons r (kv_app t h)
/-- a short dict display: the dict stands -/
theorem sub_short' {ps : List (Sem Value × Sem Value)} {xs : List Str} {es : Es} {Q : List D → Mp → Prop} {Z : Addr → Shared → Prop} (I : I3 (ct X ca) X M0 pins σ3 M σ H s) (tp : TPs ca X M0 P X3 ps xs es) (hl : ps.length ≤ 15) (hx : xs.length = ps.length) (nd : xs.Nodup) (hw : wpEs P (xat X3 σ3) es σ3 M Q)
    (z : ∀ (d : Addr) (s' : Shared) (done : List (D × D)) (M' : Mp) (H' : Hp), Bld ca X M0 pins σ3 σ H M [d] M' H' s' → DAt (ct X ca) H' d done → done.map (·.1) = xs.map D.str → Q (flatP done) M' → Z d s') : wpAny (model X.prog X.w) X.A (subDict ps) Z X.xe s := by
  obtain ⟨b, ks0, e0, _⟩ := bld_new I
  have hm : s.heap.objs.size ∈ [s.heap.objs.size] := List.mem_singleton.mpr rfl
  refine wpAny_subDict (knd := mixKind X.prog X.w) hl (run_short rfl tp b (fun d hd => by rw [List.mem_singleton] at hd; subst hd; exact ⟨_, upd_same⟩) hw fun ws s1 done vs M1 H1 b1 st1 h1 h2 h3 q => ?_)
  have eH : H1 s.heap.objs.size = some (.dK []) := (st1.1 _ _ upd_same (b.nM _ hm)).1
  obtain ⟨rs, c, rk⟩ := carries_of (P := X.prog) (w := X.w) h3
  obtain ⟨zz, hs, vs0, r0, dd⟩ := dk_of b1.I.inv.hok eH
  cases r0
  refine ⟨rs, c, dd, fun h' dd' sb => ?_⟩
  have pd := zip_strK h1 h2
  have lr : rs.length = done.length := by rw [← rk.length, ← pd.len]
  have ld : done.length = xs.length := by have := congrArg List.length h1; simpa using this
  have hnd : (rs.map (·.1)).Nodup := by
    rw [← rk.keys, List.map_map]
    have hv : vs.length = xs.length := by
      have := h2.length
      rw [List.length_map] at this
      omega
    have e1 : (xs.zip vs).map ((fun (p : Key × V) => p.1) ∘ fun p => ((Sum.inr p.1 : Key), p.2)) = xs.map fun x => (Sum.inr x : Key) := by
      rw [show ((fun (p : Key × V) => p.1) ∘ fun (p : Str × V) => ((Sum.inr p.1 : Key), p.2)) = (fun x => (Sum.inr x : Key)) ∘ (fun (p : Str × V) => p.1) from rfl, ← List.map_map, List.map_fst_zip (by omega)]
    rw [e1]
    exact List.pairwise_map.mpr (nd.imp fun h e => h (Sum.inr.inj e))
  rw [merged_new rs [] (by simpa using hnd), List.nil_append] at dd'
  have he : ∃ q, h'.get? s.heap.objs.size = some q := let ⟨q, _, _, hq, _⟩ := dd'; ⟨q, hq⟩
  have J : Inv X pins σ (upd H1 s.heap.objs.size (.dK ((xs.zip vs).map fun p => ((Sum.inr p.1 : Key), p.2)))) { s1 with heap := h', toks := s1.toks + ws.length } :=
    d_write b1.I.inv (by rw [eH]; exact True.intro) sb he (dk_new (by rw [← pd.len, sizeLine_eq]; omega) hs rk dd')
  have kw : TupK H1 (upd H1 s.heap.objs.size (.dK ((xs.zip vs).map fun p => ((Sum.inr p.1 : Key), p.2)))) := tupK_set eH (fun _ z => nomatch z) (fun _ _ z => nomatch z)
  exact z _ _ done M1 _ (b1.wr hm eH J) ⟨_, upd_same, PD.keep kw pd⟩ h1 q
theorem disp_end {ds : List D} {kvs : List (D × D)} {Q : Post} (h : wpDisp ds M Q) (e : ds = flatP kvs) (hn : kvs ≠ []) : wpNew M (.dct kvs) Q := by
  subst e
  rcases h with ⟨h, _⟩ | ⟨kvs', e, _, q⟩
  · cases kvs with
    | nil => exact absurd rfl hn
    | cons p r => cases h
  · rw [pairs_flat] at e
    cases e
    exact q
theorem tps_len : ∀ {ps : List (Sem Value × Sem Value)} {xs : List Str} {es : Es}, TPs ca X M0 P X3 ps xs es → xs.length = ps.length
  | _, _, _, .nil => rfl
  | _, _, _, .cons _ t => by rw [List.length_cons, List.length_cons, tps_len t]
theorem s_disp {k : Option Expr} {ks : List (Option Expr)} {v : Expr} {vs : List Expr} {es : Es} {pos : Pos} (ok : Ok3 ca X P cc) (hl : ks.length = vs.length) (hN : dispN (ks.length + 1) = true) (nd : (keyTxts (k :: ks)).Nodup) (h : SndPs ca X M0 P X3 (k :: ks) (v :: vs) es) : SndE ca X M0 P X3 (.Dict (k :: ks) (v :: vs) pos) (.dct es) := by
  intro pins s σ H σ3 M Q I hw
  obtain ⟨tp, hall, hlen⟩ := h.tps pos
  have pl := pairTrees_length (k :: ks) (v :: vs) X.env pos hall hlen
  have hw' : wpEs P (xat X3 σ3) es σ3 M fun ds M1 => wpDisp ds M1 Q := hw
  rw [arm_eval_Dict, zip_pairTrees _ _ _ _ hall hlen]
  refine wpAny_bind (wpAny_standAt ?_)
  generalize pairTrees (k :: ks) (v :: vs) X.env pos = ps at tp pl
  have hne : ps ≠ [] := by intro e; rw [e] at pl; simp at pl
  have lx := tps_len tp
  generalize hxs : keyTxts (k :: ks) = xs at tp nd lx
  unfold dispN at hN
  rw [Bool.or_eq_true, decide_eq_true_eq, Bool.and_eq_true, decide_eq_true_eq, decide_eq_true_eq] at hN
  have pl' : ps.length = ks.length + 1 := pl
  rcases hN with hN | ⟨hN1, hN2⟩
  · rw [dictDisplay_pairs ps hne (by omega)]
    refine wpAny_bind (sub_short' I tp (by omega) lx nd hw' fun d s' done M' H' b at_ h1 q => wpAny_pure ?_)
    refine bld_end b at_ (disp_end q rfl fun e => ?_)
    subst e
    have : xs.length = 0 := by have := congrArg List.length h1; simpa using this.symm
    omega
  · have hsplit : ps = ps.take 17 ++ ps.drop 17 := (List.take_append_drop 17 ps).symm
    have l1 : (ps.take 17).length = 17 := by rw [List.length_take]; omega
    have l2 : (ps.drop 17).length = ps.length - 17 := List.length_drop
    rw [hsplit] at tp ⊢
    generalize ps.take 17 = p1 at *
    generalize ps.drop 17 = p2 at *
    rw [dictDisplay_long p1 p2 l1 (by omega) (by intro e; rw [e] at l2; simp at l2; omega)]
    obtain ⟨b, at0⟩ := bld_new I
    have hm : s.heap.objs.size ∈ [s.heap.objs.size] := List.mem_singleton.mpr rfl
    refine wpAny_bind ?_
    unfold subDict
    refine wpAny_bind (wpAny_alloc ?_)
    refine wpAny_bind (wpAny_holding ?_)
    rw [if_neg (by omega)]
    refine wpAny_bind (wpAny_rule ?_)
    refine wpAny_bind (thn (run_long rfl p1 tp b at0 nd (fun p hp => nomatch hp) (by simp; omega) hw') fun _ s1 ⟨xs2, es2, done, M1, H1, t1, b1, at1, n1, hn1, hl1, ld, w1⟩ => ?_)
    rw [List.nil_append] at at1 hn1 hl1
    refine wpAny_pure (wpAny_pure ?_)
    have lx2 := tps_len t1
    refine wpAny_bind (wpAny_holding ?_)
    have sub := sub_short' (Z := fun d2 s2 => wpAny (model X.prog X.w) X.A (do
      (holding [.ref s.heap.objs.size, .ref d2] (mergeMapping s.heap.objs.size (.ref d2) false)).onRaise fun x => do let _ ← holding [.ref s.heap.objs.size, x] (runValue (.builtin "proto.let_go" {}))
      pure (Value.ref s.heap.objs.size)) (EP3 (ct X ca) X M0 pins σ3 σ H M Q) X.xe s2) b1.I t1 (by omega) lx2 n1 w1 fun d2 s2 done2 M2 H2 b2 at2 h2 q2 => by
      obtain ⟨ks1, e1, pd1⟩ := at1
      have ht1 : ∀ d ∈ [s.heap.objs.size], ∃ o, H1 d = some o := fun d hd => by rw [List.mem_singleton] at hd; subst hd; exact ⟨_, e1⟩
      have b3 := b1.to b2.I b2.st ht1
      have at3 : DAt (ct X ca) H2 s.heap.objs.size done := DAt.keep b1.I.hp ⟨ks1, e1, pd1⟩ (b1.nM _ hm) b2.st
      obtain ⟨ks3, e3, pd3⟩ := at3
      obtain ⟨ks4, e4, pd4⟩ := at2
      obtain ⟨z3, hs3, vs3, rel3, dd3⟩ := dk_of b3.I.inv.hok e3
      obtain ⟨z4, hs4, vs4, rel4, dd4⟩ := dk_of b3.I.inv.hok e4
      have ne : s.heap.objs.size ≠ d2 := fun e => by
        have := b2.nb d2 (List.mem_singleton.mpr rfl)
        rw [← e, e1] at this
        cases this
      have ln : done2.length = xs2.length := by have := congrArg List.length h2; simpa using this
      have keysD : ∀ {acc : List (D × D)} {ks : List (Key × V)}, PD (ct X ca) H2 acc ks → ∀ q ∈ ks, ∃ p ∈ acc, KRel p.1 q.1 := fun {acc ks} pd q hq => by
        obtain ⟨i, hi⟩ := List.mem_iff_getElem?.mp hq
        have hlt := (List.getElem?_eq_some_iff.mp hi).1
        obtain ⟨p, hp⟩ : ∃ p, acc[i]? = some p := ⟨acc[i]'(by rw [pd.len]; exact hlt), List.getElem?_eq_getElem _⟩
        obtain ⟨q', hq', kr, _⟩ := pd_get pd hp
        rw [hi] at hq'
        cases hq'
        exact ⟨p, List.mem_of_getElem? hp, kr⟩
      have apart : ∀ a ∈ vs3.map (·.1), ∀ b ∈ vs4.map (·.1), a ≠ b := fun a ha b hb e => by
        subst e
        rw [← rel3.keys] at ha
        rw [← rel4.keys] at hb
        obtain ⟨q, hq, rfl⟩ := List.mem_map.mp ha
        obtain ⟨q', hq', eq'⟩ := List.mem_map.mp hb
        obtain ⟨p, hp, kr⟩ := keysD pd3 q hq
        obtain ⟨p', hp', kr'⟩ := keysD pd4 q' hq'
        have hx : p'.1 ∈ xs2.map D.str := by rw [← h2]; exact List.mem_map.mpr ⟨p', hp', rfl⟩
        obtain ⟨x, hxm, ex⟩ := List.mem_map.mp hx
        rw [← ex, eq'] at kr'
        have hne := hn1 p hp x hxm
        cases hk : q.1 with
        | inl i => rw [hk] at kr'; exact kr'.elim
        | inr y =>
          rw [hk] at kr kr'
          have : x = y := kr'
          subst this
          cases hpk : p.1 with
          | str z => rw [hpk] at kr; have : z = x := kr; subst this; exact hne hpk
          | int i => rw [hpk] at kr; exact kr.elim
          | _ => rw [hpk] at kr; exact kr.elim
      have nd34 : ((vs3 ++ vs4).map (·.1)).Nodup := by
        rw [List.map_append, List.nodup_append]
        obtain ⟨_, _, _, _, _, _, _, _, n3⟩ := dd3
        obtain ⟨_, _, _, _, _, _, _, _, n4⟩ := dd4
        exact ⟨n3, n4, apart⟩
      have l34 : vs3.length + vs4.length ≤ 60 := by
        rw [← rel3.length, ← rel4.length, ← pd3.len, ← pd4.len, ln]
        exact hl1
      have h30 : vs3 ≠ [] := fun e => by
        have := rel3.length
        rw [e, ← pd3.len, ld, l1] at this
        cases this
      refine wpAny_bind (wpAny_onRaise (wpAny_holding (merge_pairs ne hs4 dd3 dd4 h30 (by rw [sizeLine_eq]; omega) nd34 fun h' dd' sb => wpAny_pure ?_)))
      have he : ∃ q, h'.get? s.heap.objs.size = some q := let ⟨q, _, _, hq, _⟩ := dd'; ⟨q, hq⟩
      have rel34 : KV (ks3 ++ ks4) (vs3 ++ vs4) := kv_app rel3 rel4
      have J : Inv X pins σ (upd H2 s.heap.objs.size (.dK (ks3 ++ ks4))) { s2 with heap := h' } :=
        d_write (t' := s2.toks) b3.I.inv (by rw [e3]; exact True.intro) sb he (dk_new (by rw [rel34.length, List.length_append, sizeLine_eq]; omega) hs3 rel34 dd')
      have kw : TupK H2 (upd H2 s.heap.objs.size (.dK (ks3 ++ ks4))) := tupK_set e3 (fun _ z => nomatch z) (fun _ _ z => nomatch z)
      have b4 := b3.wr hm e3 J
      refine bld_end (acc := done ++ done2) b4 ⟨_, upd_same, PD.keep kw (pd_app pd3 pd4)⟩ (disp_end q2 ?_ ?_)
      · unfold flatP; rw [List.flatMap_append]
      · intro e
        have := congrArg List.length e
        rw [List.length_append, ld, l1] at this
        simp at this
    exact sub
end
end L3
end
section
set_option autoImplicit false
set_option linter.all false
set_option maxRecDepth 100000
/-! L3: every compiled expression is sound -/
namespace L3
open PySem L2 PyProof.Rows

section
variable {ca : Nat → Addr} {X : Cx} {M0 M : Mp} {pins : List (Addr × Obj)} {σ3 : Lo} {σ : L2.St} {H : Hp} {s : Shared} {P : Pr} {X3 : Xs} {cc : CC}
theorem two_tru {v : Value} {x : D} {av : V} {k : Bool → Mp → Prop} {Z : Bool → Shared → Prop} (I : I3 (ct X ca) X M0 pins σ3 M σ H s) (rv : RelV av v) (rd : RD (ct X ca) H x av) (h : truthy x M fun b => k b M)
    (z : ∀ b s', TP3 (ct X ca) X M0 pins σ3 σ H M k b s' → Z b s') : wpAny (model X.prog X.w) X.A (PySem.truthy v) Z X.xe s := thn (o_tru I rv rd h) z
theorem s_cmp2 {a b c : Expr} {ia ib ic : E} {pos : Pos} {o o' : CmpOp} (ok : Ok3 ca X P cc) (hm : lastMarks [o, o'] [b, c] = false) (ha : SndE ca X M0 P X3 a ia) (hb : SndE ca X M0 P X3 b ib) (hc : SndE ca X M0 P X3 c ic) :
    SndE ca X M0 P X3 (.Compare a [o, o'] [b, c] pos) (.cmp2 (cCop o) (cCop o') ia ib ic) := by
  intro pins s σ H σ3 M Q I hw
  refine Compare_chain (thn (ha pins s σ H σ3 M _ I hw) fun v s1 ⟨x, M1, av, H1, I1, rv, rd, st, hw1⟩ => chain_link (thn (hb pins s1 σ H1 σ3 M1 _ I1 hw1) fun u s2 ⟨y, M2, bv, H2, I2, rv2, rd2, st2, hw2⟩ => ?_)) hm
  have h1 := o_cmp ok.hu ok.sy (cCop o) (ca := ca) pins s2 σ H2 M0 M2 σ3 x y av bv v u (fun d M3 => ∃ r, d = .bl r ∧ M3 = M2 ∧ (if r = true then wpE P (xat X3 σ3) ic σ3 M2 fun z M3 => wpCmp (cCop o') y z M3 fun r' => Q (.bl r') M3 else Q (.bl false) M2)) I2 rv rv2 (rd.keep (st2.tupK I1.hp)) rd2
  have h2 := h1 (by
    revert hw2
    generalize hG : (fun r : Bool => if r = true then wpE P (xat X3 σ3) ic σ3 M2 fun z M3 => wpCmp (cCop o') y z M3 fun r' => Q (.bl r') M3 else Q (.bl false) M2) = G
    intro hw2
    have : (fun r : Bool => ∃ r', D.bl r = .bl r' ∧ M2 = M2 ∧ G r') = G := by
      funext r
      apply propext
      constructor
      · rintro ⟨r', e, _, g⟩; cases e; exact g
      · intro g; exact ⟨r, rfl, rfl, g⟩
    have e2 : (fun r : Bool => ∃ r', D.bl r = .bl r' ∧ M2 = M2 ∧ (if r' = true then wpE P (xat X3 σ3) ic σ3 M2 fun z M3 => wpCmp (cCop o') y z M3 fun r' => Q (.bl r') M3 else Q (.bl false) M2)) = G := by
      rw [← this]; funext r; rw [← hG]
    show wpCmp (cCop o) x y M2 _
    rw [e2]
    exact hw2)
  rw [cop_c] at h2
  refine thn h2 fun d s3 ⟨dd, M3, v3, H3, I3', r3, rd3, st3, r, e1, e2, q3⟩ => ?_
  subst e1; subst e2
  have e3 : v3 = .bl r := rd3
  subst e3
  cases r3
  refine wpAny_truthy_bool ?_
  cases r with
  | false => exact ite_ff (ep_st (st.trans (st2.trans st3)) (ep_bl I3' I3'.inv q3))
  | true =>
    refine ite_tt (chain_last (thn (hc pins s3 σ H3 σ3 M3 _ I3' q3) fun w s4 ⟨z, M4, cv, H4, I4, rv4, rd4, st4, q4⟩ => ?_))
    have h5 := o_cmp ok.hu ok.sy (cCop o') (ca := ca) pins s4 σ H4 M0 M4 σ3 y z bv cv u w Q I4 rv2 rv4 ((rd2.keep (st3.tupK I2.hp)).keep (st4.tupK I3'.hp)) rd4 q4
    rw [cop_c] at h5
    exact thn h5 fun _ _ e => ep_st ((st.trans (st2.trans st3)).trans st4) e
theorem s_cmp2T {a b c : Expr} {ia ib ic : E} {pos : Pos} {o o' : CmpOp} (ok : Ok3 ca X P cc) (hm : lastMarks [o, o'] [b, c] = false) (ha : SndE ca X M0 P X3 a ia) (hb : SndE ca X M0 P X3 b ib) (hc : SndE ca X M0 P X3 c ic) :
    SndT ca X M0 P X3 (.Compare a [o, o'] [b, c] pos) (.val (.cmp2 (cCop o) (cCop o') ia ib ic)) := by
  intro whole pins s σ H σ3 M k _ I hw
  refine isTrue_chain (thn (ha pins s σ H σ3 M _ I hw) fun v s1 ⟨x, M1, av, H1, I1, rv, rd, st, hw1⟩ => test_link (thn (hb pins s1 σ H1 σ3 M1 _ I1 hw1) fun u s2 ⟨y, M2, bv, H2, I2, rv2, rd2, st2, hw2⟩ => ?_)) hm
  let G : Bool → Prop := fun r : Bool => if r = true then wpE P (xat X3 σ3) ic σ3 M2 fun z M3 => wpCmp (cCop o') y z M3 fun r' => truthy (.bl r') M3 fun b => k b M3 else truthy (.bl false) M2 fun b => k b M2
  have hw3 : wpCmp (cCop o) x y M2 G := hw2
  have h1 := o_cmp ok.hu ok.sy (cCop o) (ca := ca) pins s2 σ H2 M0 M2 σ3 x y av bv v u (fun d M3 => ∃ r, d = .bl r ∧ M3 = M2 ∧ G r) I2 rv rv2 (rd.keep (st2.tupK I1.hp)) rd2
  have h2 := h1 (by
    have e2 : (fun r : Bool => ∃ r', D.bl r = .bl r' ∧ M2 = M2 ∧ G r') = G := by
      funext r
      apply propext
      constructor
      · rintro ⟨r', e, _, g⟩; cases e; exact g
      · intro g; exact ⟨r, rfl, rfl, g⟩
    show wpCmp (cCop o) x y M2 _
    rw [e2]
    exact hw3)
  rw [cop_c] at h2
  refine thn h2 fun d s3 ⟨dd, M3, v3, H3, I3', r3, rd3, st3, r, e1, e2, q3⟩ => ?_
  subst e1; subst e2
  have e3 : v3 = .bl r := rd3
  subst e3
  cases r3
  refine wpAny_truthy_bool ?_
  cases r with
  | false => exact ite_ff ⟨M3, H3, I3', st.trans (st2.trans st3), q3⟩
  | true =>
    refine ite_tt (test_last (thn (hc pins s3 σ H3 σ3 M3 _ I3' q3) fun w s4 ⟨z, M4, cv, H4, I4, rv4, rd4, st4, q4⟩ => ?_))
    have h5 := o_cmp ok.hu ok.sy (cCop o') (ca := ca) pins s4 σ H4 M0 M4 σ3 y z bv cv u w (fun d M5 => truthy d M5 fun b => k b M5) I4 rv2 rv4 ((rd2.keep (st3.tupK I2.hp)).keep (st4.tupK I3'.hp)) rd4 q4
    rw [cop_c] at h5
    exact thn h5 fun c s5 ⟨d5, M5, v5, H5, I5, r5, rd5, st5, q5⟩ => thn (o_tru I5 r5 rd5 q5) fun _ _ e => tp_st ((((st.trans (st2.trans st3)).trans st4)).trans st5) e
theorem if_none {b : Bool} {α : Type} {a : Option α} {c : α} (h : (if b = true then none else a) = some c) : b = false ∧ a = some c := by
  cases b with
  | true => cases h
  | false => exact ⟨rfl, h⟩
theorem if_some {b : Bool} {α : Type} {a : Option α} {c : α} (h : (if b = true then a else none) = some c) : b = true ∧ a = some c := by
  cases b with
  | true => exact ⟨rfl, h⟩
  | false => cases h
end

section
variable {ca : Nat → Addr} {X : Cx} {M0 M : Mp} {P : Pr} {cc : CC}
theorem cEs_one {n : Nat} {a : Expr} {ies : Es} (h : cEs n cc [a] = some ies) : ∃ ie, ies = .cons ie .nil := by
  cases n with
  | zero => simp [cEs] at h
  | succ n =>
    simp only [cEs] at h
    obtain ⟨_, h⟩ := if_some h
    split at h
    · rename_i h1 h2
      cases h
      cases n with
      | zero => simp [cEs] at h2
      | succ n => simp [cEs] at h2; subst h2; exact ⟨_, rfl⟩
    · cases h
theorem cEs_two {n : Nat} {a b : Expr} {ies : Es} (h : cEs n cc [a, b] = some ies) : ∃ ie ie2, ies = .cons ie (.cons ie2 .nil) := by
  cases n with
  | zero => simp [cEs] at h
  | succ n =>
    unfold cEs at h
    obtain ⟨_, h⟩ := if_some h
    split at h
    · rename_i h1 h2
      cases h
      obtain ⟨ie2, rfl⟩ := cEs_one h2
      exact ⟨_, _, rfl⟩
    · cases h
theorem cEs_nil {n : Nat} {ies : Es} (h : cEs n cc [] = some ies) : ies = .nil := by
  cases n with
  | zero => simp [cEs] at h
  | succ n => simpa [cEs] using h.symm
theorem cTg_ok {tg : Expr} {t : Tg} (ok : Ok3 ca X P cc) (h : cTg cc tg = some t) : SndTg ca X M0 tg t := by
  unfold cTg at h
  split at h
  · split at h
    · cases h; exact tg_one ok (by assumption)
    · cases h
  · split at h
    · cases h; exact tg_many ok (by assumption)
    · cases h
  · cases h
theorem slotW_mem {x : Str} {i : Nat} (h : cc.slotW x = some i) : cc.N.findIdx? (· == x) = some i ∧ (cc.sc.names.lookup x = some .local ∨ cc.sc.names.lookup x = some .cell) := by
  unfold CC.slotW at h
  cases e : cc.sc.names.lookup x with
  | none => rw [e] at h; cases h
  | some k =>
    rw [e] at h
    cases k with
    | «local» => exact ⟨h, .inl rfl⟩
    | cell =>
      cases ec : cc.cs with
      | true => rw [ec] at h; exact ⟨h, .inr rfl⟩
      | false => rw [ec] at h; cases h
    | _ => cases h
theorem blk_ok {N : List Str} {sc scope : Scope} (h : blkB N sc scope = true) : BlkOk N sc scope (ownC N scope) := by
  unfold blkB at h
  simp only [Bool.and_eq_true, decide_eq_true_eq, List.all_eq_true, Bool.or_eq_true, Bool.not_eq_true', decide_eq_false_iff_not, Bool.or_eq_false_iff] at h
  obtain ⟨⟨⟨h1, h2⟩, h3⟩, h4⟩ := h
  refine ⟨h1, h2, fun p hp => ?_, fun y hy e => (h3 y hy).resolve_left fun z => z e, fun y hy e => ?_⟩
  · obtain ⟨y, _, e⟩ := List.mem_filterMap.mp hp
    split at e
    · cases q : N.findIdx? (· == y.1) with
      | none => rw [q] at e; cases e
      | some i =>
        rw [q] at e
        cases e
        exact findIdx_get q
    · cases e
  · rcases h4 y hy with z | z
    · exact absurd e (by rintro (e | e); exact z.1 e; exact z.2 e)
    · rcases z with z | z
      · exact .inl (by simpa using z)
      · exact .inr (by simpa using z)
end
theorem s_cidx1 {ca : Nat → Addr} {X : Cx} {M0 : Mp} {P : Pr} {cc : CC} {X3 : Xs} {x : Str} {ap p pos : Pos} {ds : List D} {es : List Expr} {ies : Es} (h1 : es.length = 1) (ok : Ok3 ca X P cc) (hf : cc.glob x = some (.con (.kt ds))) (hl : (ap.endLine == pos.line) = true) (hp : Plain es) (ha : SndEs ca X M0 P X3 es ies) :
    SndE ca X M0 P X3 (.Call (.Attribute (.Name x p) "index" ap) es [] pos) (.cidx ds ies) := by
  match es, h1 with
  | [e], _ => exact s_cidx ok hf hl hp ha
/-- the block's context -/
theorem ok_blk {ca : Nat → Addr} {X : Cx} {P : Pr} {cc : CC} {scope : Scope} (ok : Ok3 ca X P cc) (s : Shared) (H : Hp) (C : Addr) (cl : List (Str × Addr)) (fp : List Addr) :
    Ok3 ca (X.blk s H scope (compEnvC scope cl C X.env) fp) P { cc with sc := relC scope cc.sc, cs := false } where
  N := ok.N
  sc := by
    show relC scope cc.sc = relabel scope X.env
    rw [ok.sc]
    rfl
  nd := ok.nd
  g := ⟨ok.g.fn, ok.g.blt, ok.g.cls, ok.g.mth, ok.g.fl, ok.g.con, ok.g.exc, ok.g.exf, ok.g.isx, ok.g.tab⟩
  hu := ok.hu
  hg := ok.hg
  hc := ok.hc
  sy := ok.sy
  cell := fun h => nomatch h

def AllE (n : Nat) : Prop := ∀ (ca : Nat → Addr) (X : Cx) (M0 : Mp) (P : Pr) (cc : CC), Ok3 ca X P cc →
  (∀ (X3 : Xs), TK ca X M0 X3 → ∀ (e : Expr) (i : E), cE n cc e = some i → SndE ca X M0 P X3 e i) ∧ (∀ (X3 : Xs), TK ca X M0 X3 → ∀ (es : List Expr) (i : Es), cEs n cc es = some i → SndEs ca X M0 P X3 es i) ∧ (∀ (X3 : Xs), TK ca X M0 X3 → ∀ (e : Expr) (i : T), cT n cc e = some i → SndT ca X M0 P X3 e i) ∧
  (∀ (tg e : Expr) (k : ItK) (es : Es), cI n cc e = some (k, es) → itOk k tg = true → SndI ca X M0 P tg e k es ∧ ∀ x, foldedSetIterable e X.env x = pure x) ∧ (∀ (ifs : List Expr) (i : T), cIf n cc ifs = some i → PTs X ifs (ttB (ct X ca) P i)) ∧ (∀ (X3 : Xs), TK ca X M0 X3 → ∀ (e : Option Expr) (i : E), cP n cc e = some i → SndP ca X M0 P X3 e i) ∧ (∀ (X3 : Xs), TK ca X M0 X3 → ∀ (ks : List (Option Expr)) (vs : List Expr) (i : Es), cPs n cc ks vs = some i → SndPs ca X M0 P X3 ks vs i)
theorem allE : ∀ n, AllE n
  | 0 => fun ca X M0 P cc ok => ⟨fun X3 _ e i h => by simp [cE] at h, fun X3 _ e i h => by simp [cEs] at h, fun X3 _ e i h => by simp [cT] at h, fun tg e k es h => by simp [cI] at h, fun ifs i h => by simp [cIf] at h, fun X3 _ e i h => by simp [cP] at h, fun X3 _ ks vs i h => by simp [cPs] at h⟩
  | n + 1 => fun ca X M0 P cc ok => by
    obtain ⟨hE, hEs, hT, hI, hF, hP, hPs⟩ := allE n ca X M0 P cc ok
    have hTA := (allE n ca X MAll P cc ok).2.2.1
    refine ⟨fun X3 tk e i h => ?_, fun X3 tk es i h => ?_, fun X3 tk e i h => ?_, fun tg e k es h hk => ?_, fun ifs i h => ?_, fun X3 tk e i h => ?_, fun X3 tk ks vs i h => ?_⟩
    · unfold cE at h
      split at h
      · -- a name
        split at h
        · cases h; exact s_var ok (by assumption)
        · split at h
          · cases h; exact s_con ok (by assumption)
          · cases h
      · split at h
        · cases h; exact s_int
        · cases h; exact s_bl
        · cases h; exact s_str
        · cases h; exact s_non
        · cases h
      · split at h
        · rename_i h1 h2 h3
          cases h; exact s_bin h1 (hE _ tk _ _ h2) (hE _ tk _ _ h3)
        · cases h
      · split at h
        · rename_i h1
          cases h; exact s_not (hE _ tk _ _ h1)
        · cases h
      · split at h
        · rename_i h1
          cases h; exact s_un (hE _ tk _ _ h1)
        · cases h
      · obtain ⟨hm, h⟩ := if_none h
        split at h
        · rename_i h1 h2
          cases h; exact s_cmp ok hm (hE _ tk _ _ h1) (hE _ tk _ _ h2)
        · cases h
      · obtain ⟨hm, h⟩ := if_none h
        split at h
        · rename_i h1 h2 h3
          cases h; exact s_cmp2 ok hm (hE _ tk _ _ h1) (hE _ tk _ _ h2) (hE _ tk _ _ h3)
        · cases h
      · exact fun pins s σ H σ3 M Q I hw => BoolOp_one (hE _ tk _ _ h pins s σ H σ3 M Q I hw)
      · split at h
        · rename_i h1 h2
          cases h; exact s_and (hE _ tk _ _ h1) (hE _ tk _ _ h2)
        · cases h
      · split at h
        · rename_i h1 h2
          cases h; exact s_or (hE _ tk _ _ h1) (hE _ tk _ _ h2)
        · cases h
      · split at h
        · rename_i h1 h2 h3
          cases h; exact s_ite (hT _ tk _ _ h1) (hE _ tk _ _ h2) (hE _ tk _ _ h3)
        · cases h
      · split at h
        · rename_i h1
          cases h; exact s_tup (hEs _ tk _ _ h1)
        · cases h
      · split at h
        · rename_i h1
          cases h; exact s_lst (hEs _ tk _ _ h1)
        · cases h
      · split at h
        · rename_i h1 h2 h3
          cases h; exact s_sl (hE _ tk _ _ h1) (hP _ tk _ _ h2) (hP _ tk _ _ h3)
        · cases h
      · obtain ⟨hm, h⟩ := if_some h
        split at h
        · rename_i h1 h2
          cases h; exact s_ix ok hm (hE _ tk _ _ h1) (hE _ tk _ _ h2)
        · cases h
      · cases h; exact s_dnew
      · -- a dict display
        obtain ⟨hm, h⟩ := if_some h
        rw [Bool.and_eq_true, Bool.and_eq_true] at hm
        split at h
        · rename_i h1
          cases h; exact s_disp ok (of_decide_eq_true hm.1.1) hm.1.2 (of_decide_eq_true hm.2) (hPs _ tk _ _ _ h1)
        · cases h
      · obtain ⟨hm, h⟩ := if_some h
        split at h
        · rename_i h1
          cases h; exact s_fld ok hm (hE _ tk _ _ h1)
        · cases h
      · -- a list comprehension
        obtain ⟨hm, h⟩ := if_some h
        split at h
        · rename_i h1 h2 h3 h4
          split at h
          · rename_i hk
            cases h
            rw [ok.N, ok.sc] at hm
            obtain ⟨i1, i2⟩ := hI _ _ _ _ h1 (Bool.and_eq_true_iff.mp hk).1
            rw [ok.N]
            rw [Bool.and_eq_true] at hk
            rw [ok.N] at hk
            have hk2 := List.all_eq_true.mp hk.2
            refine s_comp tk (ownC X.N _) ok (blk_ok hm) (fun i hi => by simpa using hk2 i hi) i1 i2 (fun s H C cl fp => cTg_ok (ok_blk ok s H C cl fp) h2) (fun s H C cl fp => (allE n ca _ MAll P _ (ok_blk ok s H C cl fp)).2.2.2.2.1 _ _ h3) (fun s H C cl fp => (allE n ca _ MAll P _ (ok_blk ok s H C cl fp)).1 _ tk_false _ _ h4)
          · cases h
        · cases h
      · -- a dict comprehension
        obtain ⟨hm, h⟩ := if_some h
        split at h
        · rename_i h1 h2 h3 h4 h5
          split at h
          · rename_i hk
            cases h
            rw [ok.N, ok.sc] at hm
            obtain ⟨i1, i2⟩ := hI _ _ _ _ h1 (Bool.and_eq_true_iff.mp hk).1
            rw [ok.N]
            rw [Bool.and_eq_true] at hk
            rw [ok.N] at hk
            have hk2 := List.all_eq_true.mp hk.2
            refine s_dcomp tk (ownC X.N _) ok (blk_ok hm) (fun i hi => by simpa using hk2 i hi) i1 i2 (fun s H C cl fp => cTg_ok (ok_blk ok s H C cl fp) h2) (fun s H C cl fp => (allE n ca _ MAll P _ (ok_blk ok s H C cl fp)).2.2.2.2.1 _ _ h3) (fun s H C cl fp => (allE n ca _ MAll P _ (ok_blk ok s H C cl fp)).1 _ tk_false _ _ h4) (fun s H C cl fp => (allE n ca _ MAll P _ (ok_blk ok s H C cl fp)).1 _ tk_false _ _ h5)
          · cases h
        · cases h
      · -- list(o.items())
        obtain ⟨hm, h⟩ := if_some h
        rw [Bool.and_eq_true] at hm
        split at h
        · rename_i h1 h2
          cases h; exact s_listItems ok h1 hm.1 hm.2 (hE _ tk _ _ h2)
        · cases h
      · -- sorted(o.items())
        obtain ⟨hm, h⟩ := if_some h
        rw [Bool.and_eq_true] at hm
        split at h
        · rename_i h1 h2
          cases h; exact s_sortedItems ok h1 hm.1 hm.2 (hE _ tk _ _ h2)
        · cases h
      · -- isinstance
        obtain ⟨hm, h⟩ := if_some h
        split at h
        · rename_i h1 h2 h3 h4
          cases h; exact s_inst ok h1 h2 h3 hm (hE _ tk _ _ h4)
        · cases h
      · -- a call by name
        split at h
        · rename_i f p es pos _ _ _ _ _ i' es' h1 h2
          cases h
          cases es with
          | nil => rw [cEs_nil h2]; exact s_call0 tk ok h1
          | cons e es => exact s_call tk ok h1 (cEs_plain h2) (hEs _ tk _ _ h2)
        · rename_i f p es pos _ _ _ _ _ c' i' es' h1 h2
          cases h
          cases es with
          | nil => rw [cEs_nil h2]; exact s_make0 tk ok h1
          | cons e es => exact s_make tk ok h1 (cEs_plain h2) (hEs _ tk _ _ h2)
        · rename_i f p es pos _ _ _ _ _ es' h1 h2
          split at h
          · rename_i b hb
            cases es with
            | nil => cases h
            | cons e es => cases h; exact s_blt ok h1 hb (cEs_plain h2) (hEs _ tk _ _ h2)
          · cases h
        · cases h
      · -- a table's def
        obtain ⟨hm, h⟩ := if_some h
        split at h
        · rename_i h1 h2 h3
          cases h
          exact s_tcall tk ok h1 hm (hE _ tk _ _ h2) (cEs_plain h3) (hEs _ tk _ _ h3)
        · cases h
      · -- a method of a name's value
        split at h
        · rename_i hm
          rw [Bool.and_eq_true, Bool.and_eq_true] at hm
          obtain ⟨⟨hm1, hm2⟩, hm3⟩ := hm
          have hm1 := eq_of_beq hm1
          have hm3 := of_decide_eq_true hm3
          subst hm1
          split at h
          · rename_i h1 h2
            cases h
            exact s_cidx1 hm3 ok h1 hm2 (cEs_plain h2) (hEs _ tk _ _ h2)
          · rename_i h1 h2
            cases h
            exact s_mth ok.hu (mm := .index) rfl rfl hm2 (by omega) (cEs_plain h2) (fun e => by subst e; cases hm3) (s_con ok h1) (hEs _ tk _ _ h2)
          · cases h
        · split at h
          · rename_i h1 h2 h3
            obtain ⟨hm, h⟩ := if_some h
            rw [Bool.and_eq_true] at hm
            cases h
            exact s_mth ok.hu h1 rfl hm.1 (of_decide_eq_true hm.2) (cEs_plain h3) (fun e => by subst e; exact cEs_nil h3) (hE _ tk _ _ h2) (hEs _ tk _ _ h3)
          · rename_i h1 h2 h3
            obtain ⟨hm, h⟩ := if_some h
            rw [Bool.and_eq_true] at hm
            split at h
            · rename_i h4
              cases h
              exact s_umth tk ok h4 rfl hm.1 (of_decide_eq_true hm.2) (cEs_plain h3) (fun e => by subst e; exact cEs_nil h3) (hE _ tk _ _ h2) (hEs _ tk _ _ h3)
            · cases h
          · cases h
      · -- a method
        obtain ⟨hm, h⟩ := if_some h
        rw [Bool.and_eq_true, Bool.and_eq_true] at hm
        split at h
        · rename_i h1 h2 h3
          cases h
          exact s_mth ok.hu h1 hm.1.1 hm.1.2 (of_decide_eq_true hm.2) (cEs_plain h3) (fun e => by subst e; exact cEs_nil h3) (hE _ tk _ _ h2) (hEs _ tk _ _ h3)
        · rename_i h1 h2 h3
          split at h
          · rename_i h4
            cases h
            exact s_umth tk ok h4 hm.1.1 hm.1.2 (of_decide_eq_true hm.2) (cEs_plain h3) (fun e => by subst e; exact cEs_nil h3) (hE _ tk _ _ h2) (hEs _ tk _ _ h3)
          · cases h
        · cases h
      · cases h
    · unfold cEs at h
      split at h
      · rename_i e; cases e
      · cases h; exact s_nil
      · rename_i e1
        cases e1
        obtain ⟨hm, h⟩ := if_some h
        split at h
        · rename_i h1 h2
          cases h; exact s_cons hm (hE _ tk _ _ h1) (hEs _ tk _ _ h2)
        · cases h
    · unfold cT at h
      split at h
      · exact t_one (hT _ tk _ _ h)
      · split at h
        · rename_i h1 h2
          cases h; exact t_and (hT _ tk _ _ h1) (hT _ tk _ _ h2)
        · cases h
      · split at h
        · rename_i h1 h2
          cases h; exact t_or (hT _ tk _ _ h1) (hT _ tk _ _ h2)
        · cases h
      · split at h
        · rename_i h1
          cases h; exact t_not (hT _ tk _ _ h1)
        · cases h
      · obtain ⟨hm, h⟩ := if_none h
        split at h
        · rename_i h1 h2
          cases h; exact s_cmpT ok hm (hE _ tk _ _ h1) (hE _ tk _ _ h2)
        · cases h
      · obtain ⟨hm, h⟩ := if_none h
        split at h
        · rename_i h1 h2 h3
          cases h; exact s_cmp2T ok hm (hE _ tk _ _ h1) (hE _ tk _ _ h2) (hE _ tk _ _ h3)
        · cases h
      · obtain ⟨hm, h⟩ := if_some h
        split at h
        · rename_i h1
          cases h; exact t_val hm (hE _ tk _ _ h1)
        · cases h
    · -- what is walked
      unfold cI at h
      split at h
      · refine ⟨?_, fun _ => rfl⟩
        split at h
        · rename_i hm
          rw [Bool.and_eq_true, Bool.and_eq_true] at hm
          obtain ⟨⟨hm1, hm2⟩, hm3⟩ := hm
          have hm1 := eq_of_beq hm1
          subst hm1
          split at h
          · rename_i h1
            cases h
            cases tg with
            | Tuple a b c => exact i_items hm2 hm3 fun X3 tk => hE X3 tk _ _ h1
            | _ => cases hk
          · cases h
        · obtain ⟨hm, hx⟩ := if_some h
          rw [Bool.and_eq_true, Bool.and_eq_true] at hm
          obtain ⟨⟨hm1, hm2⟩, hm3⟩ := hm
          have hm1 := eq_of_beq hm1
          subst hm1
          split at hx
          · rename_i h1
            cases hx
            exact i_values hm2 hm3 fun X3 tk => hE X3 tk _ _ h1
          · cases hx
      · refine ⟨?_, fun _ => rfl⟩
        split at h
        · rename_i h1 h2
          obtain ⟨hg, hl, _, _⟩ := glob_ok ok h1
          split at h
          · rename_i hf
            have hf : _ = ("range" : Str) := eq_of_beq hf
            subst hf
            split at h
            · cases h
              obtain ⟨ie, rfl⟩ := cEs_one h2
              exact i_range1 hg (ok.g.blt _ hl) (cEs_plain h2 _ (by simp)) fun X3 tk => hEs X3 tk _ _ h2
            · cases h
              obtain ⟨ie, ie2, rfl⟩ := cEs_two h2
              exact i_range2 hg (ok.g.blt _ hl) (cEs_plain h2 _ (by simp)) (cEs_plain h2 _ (by simp)) fun X3 tk => hEs X3 tk _ _ h2
            · cases h
          · split at h
            · rename_i hf
              have hf : _ = ("reversed" : Str) := eq_of_beq hf
              subst hf
              split at h
              · cases h
                obtain ⟨ie, rfl⟩ := cEs_one h2
                exact i_rev hg (ok.g.blt _ hl) (cEs_plain h2 _ (by simp)) fun X3 tk => hEs X3 tk _ _ h2
              · cases h
            · split at h
              · rename_i hf
                have hf : _ = ("enumerate" : Str) := eq_of_beq hf
                subst hf
                split at h
                · cases h
                  obtain ⟨ie, rfl⟩ := cEs_one h2
                  cases tg with
                  | Tuple a b c => exact i_enum hg (ok.g.blt _ hl) (cEs_plain h2 _ (by simp)) fun X3 tk => hEs X3 tk _ _ h2
                  | _ => cases hk
                · cases h
              · split at h
                · rename_i hf
                  have hf : _ = ("sorted" : Str) := eq_of_beq hf
                  subst hf
                  split at h
                  · cases h
                    exact i_plain fun X3 tk => s_blt ok h1 rfl (cEs_plain h2) (hEs X3 tk _ _ h2)
                  · cases h
                · split at h
                  · rename_i hf
                    have hf : _ = ("list" : Str) := eq_of_beq hf
                    subst hf
                    split at h
                    · cases h
                      exact i_plain fun X3 tk => s_blt ok h1 rfl (cEs_plain h2) (hEs X3 tk _ _ h2)
                    · cases h
                  · cases h
        · rename_i f p es pos _ _ i' es' h1 h2
          cases h
          refine i_plain fun X3 tk => ?_
          cases es with
          | nil => rw [cEs_nil h2]; exact s_call0 tk ok h1
          | cons e es => exact s_call tk ok h1 (cEs_plain h2) (hEs X3 tk _ _ h2)
        · cases h
      · split at h
        · rename_i h1
          obtain ⟨hs, h⟩ := if_some h
          cases h
          refine ⟨i_plain fun X3 tk => hE X3 tk _ _ h1, fun x => ?_⟩
          cases e <;> first | rfl | cases hs
        · cases h
    · -- the tests
      unfold cIf at h
      split at h
      · rename_i e; cases e
      · cases h; exact pts_B0
      · rename_i e1
        cases e1
        exact pts_one (pt_B (hTA _ tk_false _ _ h))
      · cases h
    · -- a slice's part
      unfold cP at h
      split at h
      · rename_i e; cases e
      · cases h; exact sp_none
      · rename_i e1
        cases e1
        exact sp_some (hE _ tk _ _ h)
    · -- a display's pairs
      unfold cPs at h
      split at h
      · rename_i e; cases e
      · cases h; exact .nil
      · rename_i e1
        cases e1
        split at h
        · rename_i h1 h2
          cases h; exact .cons (hE _ tk _ _ h1) (hPs _ tk _ _ _ h2)
        · cases h
      · cases h
end L3
end
section
set_option autoImplicit false
set_option linter.all false
set_option maxRecDepth 100000
/-! L3: statements -/
namespace L3
open PySem L2 PyProof.Rows

/-- tuples stay where no exception is caught -/
def KpT (b : Bool) (H H' : Hp) : Prop := b = true → TupK H H'
theorem KpT.refl {b : Bool} {H : Hp} : KpT b H H := fun _ => TupK.refl
theorem KpT.trans {b : Bool} {H H1 H2 : Hp} (x : KpT b H H1) (y : KpT b H1 H2) : KpT b H H2 := fun e => (x e).trans (y e)
theorem TupK.ko {b : Bool} {H H' : Hp} (x : TupK H H') : KpT b H H' := fun _ => x
instance {b : Bool} {H H' : Hp} : Coe (TupK H H') (KpT b H H') := ⟨TupK.ko⟩
/-- a statement has come to its end -/
def SP3 (b : Bool) (C : Ct) (X : Cx) (M0 : Mp) (pins : List (Addr × Obj)) (Hb : Hp) (K : Ends) (f : Flow) (s' : Shared) : Prop := match f with
  | .next => ∃ σ3 M σ H, I3 C X M0 pins σ3 M σ H s' ∧ KpT b Hb H ∧ K.nx σ3 M
  | .brk => ∃ σ3 M σ H, I3 C X M0 pins σ3 M σ H s' ∧ KpT b Hb H ∧ K.bk σ3 M
  | .cont => ∃ σ3 M σ H, I3 C X M0 pins σ3 M σ H s' ∧ KpT b Hb H ∧ K.ct σ3 M
  | .ret u => ∃ d v σ3 M σ H, I3 C X M0 pins σ3 M σ H s' ∧ KpT b Hb H ∧ RelV v u ∧ RD C H d v ∧ K.rt d M
theorem SP3.from {b : Bool} {C : Ct} {X : Cx} {M0 : Mp} {pins : List (Addr × Obj)} {Ha Hb : Hp} {K : Ends} {f : Flow} {s' : Shared} (k : KpT b Ha Hb) (h : SP3 b C X M0 pins Hb K f s') : SP3 b C X M0 pins Ha K f s' := by
  cases f with
  | next => obtain ⟨a, b, c, d, I, k2, q⟩ := h; exact ⟨a, b, c, d, I, k.trans k2, q⟩
  | brk => obtain ⟨a, b, c, d, I, k2, q⟩ := h; exact ⟨a, b, c, d, I, k.trans k2, q⟩
  | cont => obtain ⟨a, b, c, d, I, k2, q⟩ := h; exact ⟨a, b, c, d, I, k.trans k2, q⟩
  | ret u => obtain ⟨x, v, a, b, c, d, I, k2, q⟩ := h; exact ⟨x, v, a, b, c, d, I, k.trans k2, q⟩
def SndS (kb : Bool) (ca : Nat → Addr) (X : Cx) (M0 : Mp) (P : Pr) (st : Stmt) (i : S) : Prop :=
  ∀ (X3 : Xs), TK ca X M0 X3 → ∀ (pins : List (Addr × Obj)) (s : Shared) (σ : L2.St) (H : Hp) (σ3 : Lo) (M : Mp) (K : Ends), I3 (ct X ca) X M0 pins σ3 M σ H s → wpS P i X3 K σ3 M →
    wpAny (model X.prog X.w) X.A (exec st X.env) (SP3 kb (ct X ca) X M0 pins H K) X.xe s
def SndSs (kb : Bool) (ca : Nat → Addr) (X : Cx) (M0 : Mp) (P : Pr) (st : List Stmt) (i : Ss) : Prop :=
  ∀ (X3 : Xs), TK ca X M0 X3 → ∀ (pins : List (Addr × Obj)) (s : Shared) (σ : L2.St) (H : Hp) (σ3 : Lo) (M : Mp) (K : Ends), I3 (ct X ca) X M0 pins σ3 M σ H s → wpSs P i X3 K σ3 M →
    wpAny (model X.prog X.w) X.A (execs st X.env) (SP3 kb (ct X ca) X M0 pins H K) X.xe s

section
variable {ca : Nat → Addr} {X : Cx} {M0 M : Mp} {pins : List (Addr × Obj)} {σ3 : Lo} {σ : L2.St} {H : Hp} {s : Shared} {P : Pr} {cc : CC} {kb : Bool}
theorem swaps_ok {e : Expr} {t : Option Expr} {n : Nat} {env : Env} (h : noComp e = true) : swapsWith e t n env = pure false := by
  unfold swapsWith
  cases e <;> first | rfl | cases h
theorem sole_ok {e t : Expr} {n : Nat} {env : Env} (h : noComp e = true) : swapsWithSole [t] e n env = pure false := by
  unfold swapsWithSole
  exact swaps_ok h
theorem st_expr {e : Expr} {pos : Pos} {ie : E} (hn : noComp e = true) (h : SndEx ca X M0 P e ie) : SndS kb ca X M0 P (.Expr e pos) (.expr ie) := by
  intro X3 tk pins s σ H σ3 M K I hw
  exact wpAny_Expr_any (thn (h _ tk pins s σ H σ3 M _ I hw) fun v s1 ⟨d, M1, v1, H1, I1, r, rd, st, q⟩ => ⟨σ3, M1, σ, H1, I1, st.tupK I.hp, q⟩) I.inv.quiet (swaps_ok hn)
theorem st_ret {e : Expr} {pos : Pos} {ie : E} (h : SndEx ca X M0 P e ie) : SndS kb ca X M0 P (.Return (some e) pos) (.ret ie) := by
  intro X3 tk pins s σ H σ3 M K I hw
  exact wpAny_Return_some (thn (h _ tk pins s σ H σ3 M _ I hw) fun v s1 ⟨d, M1, v1, H1, I1, r, rd, st, q⟩ => ⟨d, v1, σ3, M1, σ, H1, I1, st.tupK I.hp, r, rd, q⟩)
theorem st_set {e : Expr} {x : Str} {pos pos' : Pos} {ie : E} {i : Nat} (ok : Ok3 ca X P cc) (hi : cc.slotW x = some i) (hn : noComp e = true) (h : SndEx ca X M0 P e ie) : SndS kb ca X M0 P (.Assign [.Name x pos'] e pos) (.set (.one i) ie) := by
  intro X3 tk pins s σ H σ3 M K I hw
  obtain ⟨h1, h2, h3⟩ := slotW_ok ok hi
  refine wpAny_Assign_Name (thn (h _ tk pins s σ H σ3 M _ I hw) fun v s1 ⟨d, M1, v1, H1, I1, r, rd, st, q⟩ => ?_) (swaps_ok hn)
  exact store_ok I1.inv ok.nd h1 h2 r (fun s2 J => ⟨_, M1, _, H1, I1.store rd J, st.tupK I.hp, q⟩) h3
/-- name = [..]: the comprehension stores by itself -/
theorem st_setLc {ex tg iter : Expr} {ifs : List Expr} {scope : Scope} {x : Str} {px pos spos : Pos} {ie : E} {t : Tg} {k : ItK} {es : Es} {ic : T} {i : Nat} (own : List (Str × Nat)) (ok : Ok3 ca X P cc) (hx : cc.slotW x = some i) (hsw : swapC cc x px (.ListComp ex [⟨tg, iter, ifs, 0⟩] scope pos) = true)
    (bok : BlkOk X.N X.env.scope scope own) (hsl : ∀ i ∈ t.sl, i ∈ own.map (·.2)) (hi : SndI ca X M0 P tg iter k es) (hs : ∀ x, foldedSetIterable iter X.env x = pure x)
    (hg : ∀ (s : Shared) (H : Hp) (C : Addr) (cl : List (Str × Addr)) (fp : List Addr), SndTg ca (X.blk s H scope (compEnvC scope cl C X.env) fp) MAll tg t)
    (ht : ∀ (s : Shared) (H : Hp) (C : Addr) (cl : List (Str × Addr)) (fp : List Addr), PTs (X.blk s H scope (compEnvC scope cl C X.env) fp) ifs (ttB (ct X ca) P ic))
    (he : ∀ (s : Shared) (H : Hp) (C : Addr) (cl : List (Str × Addr)) (fp : List Addr), SndE ca (X.blk s H scope (compEnvC scope cl C X.env) fp) MAll P (fun _ _ _ => False) ex ie) :
    SndS kb ca X M0 P (.Assign [.Name x px] (.ListComp ex [⟨tg, iter, ifs, 0⟩] scope pos) spos) (.set (.one i) (.comp (own.map (·.2)) ie t k es ic)) := by
  intro X3 tk pins s σ H σ3 M K I hw
  obtain ⟨h1, h2, h3⟩ := slotW_ok ok hx
  have hsw : (decide (cc.sc.names.lookup x = some .local) && (px.line == pos.line) && !(scope.names.any fun (n, k) => n == x && (k == .local || k == .cell))) = true := hsw
  rw [Bool.and_eq_true, Bool.and_eq_true, decide_eq_true_eq, Bool.not_eq_true'] at hsw
  obtain ⟨⟨w1, w2⟩, w3⟩ := hsw
  rw [ok.sc] at w1
  have hw' : wpE P (xat X3 σ3) (.comp (own.map (·.2)) ie t k es ic) σ3 M (fun d M1 => wpTg (.one i) d σ3 M1 fun σ1 => K.nx σ1 M1) := hw
  let Qe : Post := fun d M1 => wpTg (.one i) d σ3 M1 fun σ1 => K.nx σ1 M1
  let De : L2.Ends := ⟨fun σ' H' => ∃ D, σ' = σ.set i (some (.ref D)) ∧ LcEnd ca X M0 σ H σ3 M Qe D H', fun _ _ => False, fun _ _ => False, fun _ _ => False⟩
  have tr : tLc (tiB ca X M0 P X3 k es) (tgB (ct X ca) t) (ttB (ct X ca) P ic) (teB (ct X ca) P ie) (own.map (·.2)) σ H (fun x H1 => gName i x σ H1 De.nx) := lc_tr (own.map (·.2)) hsl I hw' fun D H' q => ⟨D, rfl, q⟩
  have run := (ps_setLc (te := teB (ct X ca) P ie) (tt := ttB (ct X ca) P ic) (g := tgB (ct X ca) t) (wi := tiB ca X M0 P X3 k es) (spos := spos) ok.hc ok.nd h1 w1 (sw_true I.inv.ok.kind w1 w2 w3) (pi_B tk hi) bok (fun s H C cl fp => pg_B (hg s H C cl fp)) ht (fun s H C cl fp => pe_B (he s H C cl fp)) hs).run pins s σ H De I.inv tr
  refine thn run fun f s' h => ?_
  cases f with
  | next =>
    obtain ⟨σ', H', J, D, rfl, q⟩ := h
    have rl := q.choose_spec.choose_spec.choose_spec.choose_spec.1
    obtain ⟨M2, H2, I2, st2, q2⟩ := lc_end I q J (rl.set (i := i) (d := .ref D) (v := .ref D) rfl)
    exact ⟨_, M2, _, H2, I2, st2.tupK I.hp, q2⟩
  | brk => obtain ⟨_, _, _, z⟩ := h; exact z.elim
  | cont => obtain ⟨_, _, _, z⟩ := h; exact z.elim
  | ret u => obtain ⟨_, _, _, _, _, z⟩ := h; exact z.elim
theorem swD_true {kx vx : Expr} {gs : List Comprehension} {scope : Scope} {pos py : Pos} {y : Str} {l : Nat} {env : Env} (hk : env.scope.kind = .function) (hy : env.scope.names.lookup y = some .local) (hl : (py.line == pos.line) = true)
    (ha : (scope.names.any fun (n, k) => n == y && (k == .local || k == .cell)) = false) : swapsWith (.DictComp kx vx gs scope pos) (some (.Name y py)) l env = pure true := by
  have k1 : env.kindOf y = some .local := hy
  have k2 : env.blockKind = .function := by unfold Env.blockKind; rw [hk]; rfl
  unfold swapsWith
  simp only [k2, k1, ha, Expr.pos, hl]
  rfl
/-- name = {..}: the comprehension stores by itself -/
theorem st_setDc {kx vx tg iter : Expr} {ifs : List Expr} {scope : Scope} {x : Str} {px pos spos : Pos} {ik iv : E} {t : Tg} {k : ItK} {es : Es} {ic : T} {i : Nat} (own : List (Str × Nat)) (ok : Ok3 ca X P cc) (hx : cc.slotW x = some i) (hsw : swapD cc x px (.DictComp kx vx [⟨tg, iter, ifs, 0⟩] scope pos) = true)
    (bok : BlkOk X.N X.env.scope scope own) (hsl : ∀ i ∈ t.sl, i ∈ own.map (·.2)) (hi : SndI ca X M0 P tg iter k es) (hs : ∀ x, foldedSetIterable iter X.env x = pure x)
    (hg : ∀ (s : Shared) (H : Hp) (C : Addr) (cl : List (Str × Addr)) (fp : List Addr), SndTg ca (X.blk s H scope (compEnvC scope cl C X.env) fp) MAll tg t)
    (ht : ∀ (s : Shared) (H : Hp) (C : Addr) (cl : List (Str × Addr)) (fp : List Addr), PTs (X.blk s H scope (compEnvC scope cl C X.env) fp) ifs (ttB (ct X ca) P ic))
    (hk : ∀ (s : Shared) (H : Hp) (C : Addr) (cl : List (Str × Addr)) (fp : List Addr), SndE ca (X.blk s H scope (compEnvC scope cl C X.env) fp) MAll P (fun _ _ _ => False) kx ik)
    (hv : ∀ (s : Shared) (H : Hp) (C : Addr) (cl : List (Str × Addr)) (fp : List Addr), SndE ca (X.blk s H scope (compEnvC scope cl C X.env) fp) MAll P (fun _ _ _ => False) vx iv) :
    SndS kb ca X M0 P (.Assign [.Name x px] (.DictComp kx vx [⟨tg, iter, ifs, 0⟩] scope pos) spos) (.set (.one i) (.dcomp (own.map (·.2)) ik iv t k es ic)) := by
  intro X3 tk pins s σ H σ3 M K I hw
  obtain ⟨h1, h2, h3⟩ := slotW_ok ok hx
  have hsw : (decide (cc.sc.names.lookup x = some .local) && (px.line == pos.line) && !(scope.names.any fun (n, k) => n == x && (k == .local || k == .cell))) = true := hsw
  rw [Bool.and_eq_true, Bool.and_eq_true, decide_eq_true_eq, Bool.not_eq_true'] at hsw
  obtain ⟨⟨w1, w2⟩, w3⟩ := hsw
  rw [ok.sc] at w1
  have hw' : wpE P (xat X3 σ3) (.dcomp (own.map (·.2)) ik iv t k es ic) σ3 M (fun d M1 => wpTg (.one i) d σ3 M1 fun σ1 => K.nx σ1 M1) := hw
  obtain ⟨tkk, hw'⟩ := hw'
  rw [exec_Assign_Name_used _ _ _ _ (swD_true I.inv.ok.kind w1 w2 w3)]
  refine wpAny_bind (wpAny_standAt (wpAny_bind (wpAny_bind (m := comprehension _ _ _ _ _ _ _ (some (assign (.Name x px) X.env))) (thn (dcomp_core (use := some (assign (.Name x px) X.env)) (Qf := fun _ s' => SP3 kb (ct X ca) X M0 pins H K .next s') tk own ok bok hsl hi hs hg ht hk hv I hw' ?_) fun _ s' hq => wpAny_pure (wpAny_pure hq)))))
  intro D C s' m H' acc M' fin J rl rm st st0 hD0 un hs' hz nw hf q hn f
  change wpAny _ _ (assign (.Name x px) X.env (.ref D)) _ _ _
  refine wpAny_assign_Name (store_ok2 (v := V.ref D) J ok.nd h1 (Or.inl w1) rfl (fun s2 J2 hJ2 => ?_) (Or.inr w1))
  obtain ⟨a, sb, ha⟩ := hJ2
  obtain ⟨f0, f1, f2, f3, f4, f5⟩ := f
  have apart : C ≠ a := ha.elim (fun z => by rw [z]; exact f1) fun z e => f4 x a z e.symm
  refine ⟨m, hn.sameBut sb apart, fun h3 sb3 => ?_⟩
  obtain ⟨M2, H2, I2, st2, q2⟩ := ld_end I (J2.turned (t' := s2.toks) (fun b o hb e => (sb3.2 b hb).trans e) f0 f1 f3 f4 f5) (rl.set (i := i) (d := .ref D) (v := .ref D) rfl) rm st st0 hD0 un hs' hz nw hf q
  exact ⟨_, M2, _, H2, I2, st2.tupK I.hp, q2⟩
theorem st_setT {e : Expr} {ts : List Expr} {kk : Nat} {pos pos' : Pos} {ie : E} {t : Tg} (ht : SndTg ca X M0 (.Tuple ts kk pos') t) (hn : (noComp e && !isTupE e) = true) (h : SndEx ca X M0 P e ie) : SndS kb ca X M0 P (.Assign [.Tuple ts kk pos'] e pos) (.set t ie) := by
  intro X3 tk pins s σ H σ3 M K I hw
  rw [Bool.and_eq_true] at hn
  have hsw : swappedStores [.Tuple ts kk pos'] e X.env = pure none := by
    unfold swappedStores
    cases e <;> first | rfl | cases hn.2
  have h1 : (assignEach [.Tuple ts kk pos'] X.env).map (·.2) = [assign (.Tuple ts kk pos') X.env] := rfl
  refine wpAny_Assign_stores (thn (h _ tk pins s σ H σ3 M _ I hw) fun v s1 ⟨d, M1, v1, H1, I1, r, rd, st, q⟩ => ?_) (sole_ok hn.1) hsw
  rw [h1]
  show wpAny _ _ (assign (.Tuple ts kk pos') X.env v) _ _ _
  exact thn (ht pins s1 σ H1 σ3 M1 d v1 v _ I1 r rd q) fun _ s2 ⟨σ3', σ', J, _, q⟩ => ⟨σ3', M1, σ', H1, J, st.tupK I.hp, q⟩
theorem swaps_attr {e o : Expr} {f : Str} {p : Pos} {n : Nat} {env : Env} : swapsWith e (some (.Attribute o f p)) n env = pure false := by
  unfold swapsWith
  cases e <;> rfl
theorem st_setFld {o e : Expr} {f : Str} {pos pos' : Pos} {io ie : E} (ok : Ok3 ca X P cc) (hn : noSuper o = true) (ho : SndEx ca X M0 P o io) (h : SndEx ca X M0 P e ie) : SndS kb ca X M0 P (.Assign [.Attribute o f pos'] e pos) (.setFld io f ie) := by
  intro X3 tk pins s σ H σ3 M K I hw
  refine plainObj_wpAny_Assign_Attribute (thn (h _ tk pins s σ H σ3 M _ I hw) fun v s1 ⟨d, M1, v1, H1, I1, r, rd, st, q⟩ => thn (ho _ tk pins s1 σ H1 σ3 M1 _ I1 q) fun ov s2 ⟨x, M2, xv, H2, I2, r2, rd2, st2, q2⟩ => ?_) swaps_attr
  exact thn (o_setFld ok I2 r2 r rd2 (rd.keep (st2.tupK I1.hp)) q2) fun _ s3 ⟨M3, H3, I3', k3, q3⟩ => ⟨σ3, M3, σ, H3, I3', ((st.tupK I.hp).trans (st2.tupK I1.hp)).trans k3, q3⟩
theorem st_augFld {a e : Expr} {f : Str} {pos pos' : Pos} {o : Operator} {o' : BOp} {ia ie : E} (ok : Ok3 ca X P cc) (hop : cBop o = some o') (ha : SndEx ca X M0 P a ia) (h : SndEx ca X M0 P e ie) : SndS kb ca X M0 P (.AugAssign (.Attribute a f pos') o e pos) (.augFld ia f o' ie) := by
  intro X3 tk pins s σ H σ3 M K I hw
  have eo : o = bop o' := by
    cases o <;> cases o' <;> first | rfl | cases hop
  subst eo
  refine wpAny_AugAssign_AttributeAny (thn (ha _ tk pins s σ H σ3 M _ I hw) fun ov s1 ⟨x, M1, xv, H1, I1, r1, rd1, st1, q1⟩ => ?_)
  refine thn (o_fld ok I1 r1 rd1 q1) fun w s2 ⟨d, M2, dv, H2, I2, r2, rd2, st2, q2⟩ => ?_
  refine thn (h _ tk pins s2 σ H2 σ3 M2 _ I2 q2) fun u s3 ⟨y, M3, yv, H3, I3', r3, rd3, st3, q3⟩ => ?_
  refine thn (o_inp o' (ca := ca) pins s3 σ H3 M0 M3 σ3 d y dv yv w u _ I3' r2 r3 (rd2.keep (st3.tupK I2.hp)) rd3 q3) fun z s4 ⟨zd, M4, zv, H4, I4, r4, rd4, st4, q4⟩ => ?_
  exact thn (o_setFld ok I4 r1 r4 (((rd1.keep (st2.tupK I1.hp)).keep (st3.tupK I2.hp)).keep (st4.tupK I3'.hp)) rd4 q4) fun _ s5 ⟨M5, H5, I5, k5, q5⟩ => ⟨σ3, M5, σ, H5, I5, ((((st1.tupK I.hp).trans (st2.tupK I1.hp)).trans (st3.tupK I2.hp)).trans (st4.tupK I3'.hp)).trans k5, q5⟩
theorem assign_sub {o i : Expr} {pos : Pos} {env : Env} (h : notSlice i = true) (v : Value) : assign (.Subscript o i pos) env v = (do
    let ov ← holding [v] (eval o env)
    let iv ← holding [v, ov] (eval i env)
    standAt pos
    holding [v, ov, iv] (setItem ov iv v)
    release [v, ov, iv] []) := by
  cases i <;> first | rfl | cases h
theorem o_setIx (hu : X.A.units + 10 < cLine) {x y z : D} {a b c : V} {v u w : Value} {k : Mp → Prop} (I : I3 (ct X ca) X M0 pins σ3 M σ H s) (ra : RelV a v) (rb : RelV b u) (rc : RelV c w) (hx : RD (ct X ca) H x a) (hy : RD (ct X ca) H y b) (hz : RD (ct X ca) H z c) (h : wpSetIx x y z M k) :
    wpAny (model X.prog X.w) X.A (setItem v u w) (fun _ s' => ∃ M' H', I3 (ct X ca) X M0 pins σ3 M' σ H' s' ∧ TupK H H' ∧ k M') X.xe s := by
  cases x with
  | ref p =>
    have e : a = .ref p := hx; subst e
    cases g : M p with
    | none => simp only [wpSetIx, g] at h
    | some o =>
      cases o with
      | lst ds => cases y with
        | int i =>
          simp only [wpSetIx, g] at h
          obtain ⟨⟨h0, h1⟩, q⟩ := h
          obtain ⟨xs, hxs, rs⟩ := I.hp.lst g
          have hl := rs.length
          refine thn (set_list pins s σ H (.ref p) b c v u w (fun H' => H' = upd H p (.lst (xs.set i.toNat c))) I.inv ra rb rc ⟨p, xs, i, i.toNat, rfl, hy, hxs, ?_, rfl⟩) fun _ s' ⟨H', J, e⟩ => ?_
          · unfold ixN
            rw [if_pos h0, if_pos (by omega)]
          · subst e
            exact ⟨_, _, I.to J (I.hp.write (m' := .lst (ds.set i.toNat z)) g (RDs.keep (I.hp.tupKw g) (RDs.set i.toNat rs hz))) (write_stp I.hp g), I.hp.tupKw g, q⟩
        | _ => simp only [wpSetIx, g] at h
      | dct kvs =>
        simp only [wpSetIx, g] at h
        obtain ⟨⟨hk, hl⟩, q⟩ := h
        obtain ⟨ks, hH, pd, ty⟩ := I.dictAt g
        obtain ⟨kk, rfl, kr⟩ := key_rd hy hk
        cases ra
        have kw : TupK H (upd H p (.dK (putK ks kk c))) := I.hp.tupKw g
        exact d_setItem (by omega) I.inv (DPut.k hH (by rw [← pd.len]; exact hl)) rb rc fun s' J => ⟨_, _, I.to J (I.hp.write (m' := .dct (dput kvs y z)) g ⟨putK ks kk c, rfl, PD.keep kw (pd_put kr hz pd)⟩) (write_stp I.hp g), kw, q⟩
      | dcT kvs =>
        simp only [wpSetIx, g] at h
        obtain ⟨⟨hk, hl⟩, q⟩ := h
        cases ra
        exact t_setItem hu I g hy rb hk hz rc hl fun H' s' I2 st => ⟨_, H', I2, st.tupK I.hp, q⟩
      | _ => simp only [wpSetIx, g] at h
  | _ => exact h.elim
theorem st_setIx {a b e : Expr} {pos pos' : Pos} {ia ib ie : E} (ok : Ok3 ca X P cc) (hs : notSlice b = true) (hn : noComp e = true) (ha : SndEx ca X M0 P a ia) (hb : SndEx ca X M0 P b ib) (h : SndEx ca X M0 P e ie) : SndS kb ca X M0 P (.Assign [.Subscript a b pos'] e pos) (.setIx ia ib ie) := by
  intro X3 tk pins s σ H σ3 M K I hw
  have h1 : (assignEach [.Subscript a b pos'] X.env).map (·.2) = [assign (.Subscript a b pos') X.env] := rfl
  refine wpAny_Assign_stores (thn (h _ tk pins s σ H σ3 M _ I hw) fun v s1 ⟨d, M1, v1, H1, I1, r, rd, st, q⟩ => ?_) (sole_ok hn) rfl
  rw [h1]
  refine thn (Q := fun _ s' => ∃ M' H', I3 (ct X ca) X M0 pins σ3 M' σ H' s' ∧ TupK H H' ∧ K.nx σ3 M') ?_ fun _ s' ⟨M', H', J, kq, q⟩ => ⟨σ3, M', σ, H', J, kq, q⟩
  show wpAny _ _ (assign (.Subscript a b pos') X.env v) _ _ _
  rw [assign_sub hs]
  refine wpAny_bind (wpAny_holding (thn (ha _ tk pins s1 σ H1 σ3 M1 _ I1 q) fun ov s2 ⟨x, M2, xv, H2, I2, r2, rd2, st2, q2⟩ => ?_))
  refine wpAny_bind (wpAny_holding (thn (hb _ tk pins s2 σ H2 σ3 M2 _ I2 q2) fun iv s3 ⟨y, M3, yv, H3, I3', r3, rd3, st3, q3⟩ => ?_))
  refine wpAny_bind (wpAny_standAt (wpAny_bind (wpAny_holding (thn (o_setIx (by have := ok.hu; omega) I3' r2 r3 r (rd2.keep (st3.tupK I2.hp)) rd3 ((rd.keep (st2.tupK I1.hp)).keep (st3.tupK I2.hp)) q3) fun _ s4 ⟨M4, H4, I4, k4, q4⟩ => ?_))))
  exact wpAny_release ⟨M4, H4, I4, (((st.tupK I.hp).trans (st2.tupK I1.hp)).trans (st3.tupK I2.hp)).trans k4, q4⟩
theorem o_del (hu : X.A.units + 10 < cLine) {x y : D} {a b : V} {v u : Value} {k : Mp → Prop} (I : I3 (ct X ca) X M0 pins σ3 M σ H s) (ra : RelV a v) (rb : RelV b u) (hx : RD (ct X ca) H x a) (hy : RD (ct X ca) H y b) (h : wpDel x y M k) :
    wpAny (model X.prog X.w) X.A (delItem v u) (fun _ s' => ∃ M' H', I3 (ct X ca) X M0 pins σ3 M' σ H' s' ∧ TupK H H' ∧ k M') X.xe s := by
  cases x with
  | ref p =>
    have e : a = .ref p := hx; subst e
    cases g : M p with
    | none => simp only [wpDel, g] at h
    | some o =>
      cases o with
      | dct kvs =>
        simp only [wpDel, g] at h
        obtain ⟨⟨hk, hl⟩, q⟩ := h
        obtain ⟨ks, hH, pd, ty⟩ := I.dictAt g
        obtain ⟨kk, rfl, kr⟩ := key_rd hy hk
        cases ra
        obtain ⟨rm, st⟩ := dk_wr I.hp g (pd_drop kr pd)
        exact d_delItem I.inv hH rb (by rw [← (dget_val kr pd).2]; exact hl) fun s' J => ⟨_, _, I.to J rm st, st.tupK I.hp, q⟩
      | dcT kvs =>
        simp only [wpDel, g] at h
        obtain ⟨⟨hk, hl⟩, q⟩ := h
        cases ra
        exact t_delItem hu I g hy rb hk hl fun H' s' I2 st => ⟨_, H', I2, st.tupK I.hp, q⟩
      | _ => simp only [wpDel, g] at h
  | _ => exact h.elim
theorem st_del {a b : Expr} {pos pos' : Pos} {ia ib : E} (ok : Ok3 ca X P cc) (hs : notSlice b = true) (ha : SndEx ca X M0 P a ia) (hb : SndEx ca X M0 P b ib) : SndS kb ca X M0 P (.Delete [.Subscript a b pos'] pos) (.delIx ia ib) := by
  intro X3 tk pins s σ H σ3 M K I hw
  refine wpAny_Delete (wpAny_deleteEach_cons (wpAny_delete_Subscript (thn (ha _ tk pins s σ H σ3 M _ I hw) fun ov s2 ⟨x, M2, xv, H2, I2, r2, rd2, st2, q2⟩ => thn (hb _ tk pins s2 σ H2 σ3 M2 _ I2 q2) fun iv s3 ⟨y, M3, yv, H3, I3', r3, rd3, st3, q3⟩ => ?_)))
  exact thn (o_del (by have := ok.hu; omega) I3' r2 r3 (rd2.keep (st3.tupK I2.hp)) rd3 q3) fun _ s4 ⟨M4, H4, I4, k4, q4⟩ => wpAny_deleteEach_nil ⟨σ3, M4, σ, H4, I4, ((st2.tupK I.hp).trans (st3.tupK I2.hp)).trans k4, q4⟩
theorem st_retN {pos : Pos} : SndS kb ca X M0 P (.Return none pos) .retN := by
  intro X3 tk pins s σ H σ3 M K I hw
  exact wpAny_Return_none ⟨.non, .non, σ3, M, σ, H, I, KpT.refl, rfl, rfl, hw⟩
theorem st_aug {x : Str} {e : Expr} {pos pos' : Pos} {i : Nat} {o : Operator} {o' : BOp} {ie : E} (ok : Ok3 ca X P cc) (hi : cc.slotW x = some i) (ho : cBop o = some o') (h : SndEx ca X M0 P e ie) : SndS kb ca X M0 P (.AugAssign (.Name x pos') o e pos) (.aug i o' ie) := by
  intro X3 tk pins s σ H σ3 M K I hw
  obtain ⟨h1, h2, h3⟩ := slotW_ok ok hi
  have eo : o = bop o' := by
    cases o <;> cases o' <;> first | rfl | cases ho
  subst eo
  obtain ⟨d, e1, hw⟩ := hw
  obtain ⟨v, ev, rd⟩ := I.lo.2 i d e1
  obtain ⟨m, hn, hl⟩ := I.inv.loc
  have vis : Vis X.env.scope x := by rcases h2 with k | k; exact .inl k; exact .inr (.inl k)
  obtain ⟨u, r, l⟩ := hl i x v h1 ev vis
  refine wpAny_AugAssign_Name ?_
  have go : wpAny (model X.prog X.w) X.A (eval e X.env) (fun w s₂ => wpAny (model X.prog X.w) X.A (inplaceOp (bop o') u w) (fun r s₃ => wpAny (model X.prog X.w) X.A (storeName X.env x r) (fun _ => SP3 kb (ct X ca) X M0 pins H K .next) X.xe s₃) X.xe s₂) X.xe s := by
    refine thn (h _ tk pins s σ H σ3 M _ I hw) fun w s1 ⟨y, M1, yv, H1, I1, r1, rd1, st1, q1⟩ => ?_
    refine thn (o_inp o' (ca := ca) pins s1 σ H1 M0 M1 σ3 d y v yv u w _ I1 r r1 (rd.keep (st1.tupK I.hp)) rd1 q1) fun z s2 ⟨zd, M2, zv, H2, I2, r2, rd2, st2, q2⟩ => ?_
    exact store_ok I2.inv ok.nd h1 h2 r2 (fun s3 J => ⟨_, M2, _, H2, I2.store rd2 J, (st1.tupK I.hp).trans (st2.tupK I1.hp), q2⟩) h3
  rcases l with ⟨hk, hm⟩ | ⟨hk, c, hc, hcell⟩
  · exact wpAny_loadName_local I.inv.ok.kind hk hn hm go
  · rcases hk with hk | hk
    · exact wpAny_loadName_cell I.inv.ok.kind hk hc hcell go
    · have hf : X.env.scope.names.lookup x = some .free := hk
      rcases h2 with k | k <;> (rw [k] at hf; cases hf)
theorem st_if {c : Expr} {a b : List Stmt} {pos : Pos} {ic : T} {ia ib : Ss} (hc : SndTx ca X M0 P c ic) (ha : SndSs kb ca X M0 P a ia) (hb : SndSs kb ca X M0 P b ib) : SndS kb ca X M0 P (.If c a b pos) (.ite ic ia ib) := by
  intro X3 tk pins s σ H σ3 M K I hw
  refine wpAny_If (thn (hc _ tk _ pins s σ H σ3 M _ (.inl rfl) I hw) fun d s1 ⟨M1, H1, I1, st, q⟩ => ?_)
  cases d with
  | true => exact thn (ha X3 tk pins s1 σ H1 σ3 M1 K I1 q) fun _ _ e => e.from (st.tupK I.hp)
  | false => exact thn (hb X3 tk pins s1 σ H1 σ3 M1 K I1 q) fun _ _ e => e.from (st.tupK I.hp)
theorem st_bad {st : Stmt} : SndS kb ca X M0 P st .bad := fun X3 tk pins s σ H σ3 M K I hw => False.elim hw
theorem st_pass {pos : Pos} : SndS kb ca X M0 P (.Pass pos) .pass := fun X3 tk pins s σ H σ3 M K I hw => wpAny_Pass ⟨σ3, M, σ, H, I, KpT.refl, hw⟩
theorem st_brk {pos : Pos} : SndS kb ca X M0 P (.Break pos) .brk := fun X3 tk pins s σ H σ3 M K I hw => wpAny_Break ⟨σ3, M, σ, H, I, KpT.refl, hw⟩
theorem st_cnt {pos : Pos} : SndS kb ca X M0 P (.Continue pos) .cnt := fun X3 tk pins s σ H σ3 M K I hw => wpAny_Continue ⟨σ3, M, σ, H, I, KpT.refl, hw⟩
theorem sts_nil : SndSs kb ca X M0 P [] .nil := fun X3 tk pins s σ H σ3 M K I hw => wpAny_execs_nil ⟨σ3, M, σ, H, I, KpT.refl, hw⟩
theorem sts_cons {a : Stmt} {l : List Stmt} {ia : S} {il : Ss} (ha : SndS kb ca X M0 P a ia) (hl : SndSs kb ca X M0 P l il) : SndSs kb ca X M0 P (a :: l) (.cons ia il) := by
  intro X3 tk pins s σ H σ3 M K I hw
  refine wpAny_execs_cons (thn (ha X3 tk pins s σ H σ3 M _ I hw) fun f s1 q => ?_)
  cases f with
  | next =>
    obtain ⟨σ', M', σ2, H', I', k, q⟩ := q
    exact thn (hl X3 tk pins s1 σ2 H' σ' M' K I' q) fun _ _ e => e.from k
  | ret v => exact q
  | brk => exact q
  | cont => exact q
theorem st_wh {c : Expr} {b : List Stmt} {pos : Pos} {ic : T} {ib : Ss} (hp : PassesOwn (model X.prog X.w) X.A X.env X.xe) (hc : SndTx ca X M0 P c ic) (hb : SndSs kb ca X M0 P b ib) : SndS kb ca X M0 P (.While c b [] pos) (.wh ic ib) := by
  intro X3 tk pins s σ H σ3 M K I hw
  obtain ⟨n0, w0⟩ := hw
  refine wpAny_While (codeAny_whileLoop (fun n s' => ∃ σ3' M' σ' H', I3 (ct X ca) X M0 pins σ3' M' σ' H' s' ∧ KpT kb H H' ∧ whL (fun σ M k => wpT P (xat X3 σ) ic σ M k) (fun D σ M => wpSs P ib X3 D σ M) K n σ3' M') ?_ n0 ⟨σ3, M, σ, H, I, KpT.refl, w0⟩)
  rintro n s1 ⟨σ3', M', σ', H', I', k0, w⟩
  cases n with
  | zero => exact False.elim w
  | succ n =>
    refine wpAny_passesOwn hp (thn (hc _ tk _ pins s1 σ' H' σ3' M' _ (.inl rfl) I' w) fun d s2 ⟨M2, H2, I2, st, q⟩ => ?_)
    have k2 := k0.trans (TupK.ko (st.tupK I'.hp))
    cases d with
    | true =>
      rw [if_pos rfl]
      refine wpAny_passesOwn hp (thn (hb X3 tk pins s2 σ' H2 σ3' M2 _ I2 q) fun f s3 q3 => ?_)
      cases f with
      | next =>
        obtain ⟨σ4, M4, σ5, H4, I4, k4, q4⟩ := q3
        exact ⟨n, Nat.lt_succ_self n, σ4, M4, σ5, H4, I4, k2.trans k4, q4⟩
      | cont =>
        obtain ⟨σ4, M4, σ5, H4, I4, k4, q4⟩ := q3
        exact ⟨n, Nat.lt_succ_self n, σ4, M4, σ5, H4, I4, k2.trans k4, q4⟩
      | brk => obtain ⟨σ4, M4, σ5, H4, I4, k4, q4⟩ := q3; exact ⟨σ4, M4, σ5, H4, I4, k2.trans k4, q4⟩
      | ret v => exact q3.from k2
    | false =>
      rw [if_neg Bool.false_ne_true]
      exact wpAny_execs_nil ⟨σ3', M2, σ', H2, I2, k2, q⟩
end
end L3
end
section
set_option autoImplicit false
set_option linter.all false
set_option maxRecDepth 100000
/-! L3: raise, try -/
namespace L3
open PySem L2 PyProof.Rows
section
variable {ca : Nat → Addr} {X : Cx} {M0 M : Mp} {pins : List (Addr × Obj)} {σ3 : Lo} {σ : L2.St} {H : Hp} {s : Shared} {P : Pr} {cc : CC} {kb : Bool}
theorem st_raise {x : Str} {p pos pos' : Pos} {es : List Expr} {ies : Es} {c : Nat} (ok : Ok3 ca X P cc) (hf : cc.glob x = some (.exc c)) (hp : Plain es) (he : es = [] → ies = .nil) (ha : SndEsx ca X M0 P es ies) :
    SndS kb ca X M0 P (.Raise (some (.Call (.Name x p) es [] pos)) none pos') (.raise c ies) := by
  intro X3 tk pins s σ H σ3 M K I hw
  obtain ⟨hg, hl, hd, _⟩ := glob_ok ok hf
  obtain ⟨hm, E, hr, _⟩ := ok.g.exc x c hl
  have mk : MkX ca X (P.exf c) c := mkx_of (k := 2) E hr
  have hw : wpEs P (xat X3 σ3) ies σ3 M fun ds M1 => (ds.length = (P.exf c).length ∧ ∀ d ∈ ds, d.fmt) ∧ X3 (.exn c (exnF (P.exf c) ds)) σ3 M1 := hw
  have pm : L2N.PMk X (.Call (.Name x p) es [] pos) (fun σ' H' Q => (σ' = σ ∧ H' = H) ∧ ∀ cls d H1, WX3 ca X M0 X3 cls d σ H1 → Q cls d H1) := by
    rintro pins' s' σ' H' Q J ⟨⟨rfl, rfl⟩, hq⟩
    have I' : I3 (ct X ca) X M0 pins' σ3 M σ' H' s' := ⟨J, I.lo, I.hp, I.st⟩
    refine wpAny_Call_Name_kw (ld_glob J hg hm ?_ hd)
    have go : ∀ (us : List Value) (s1 : Shared), EPs3 (ct X ca) X M0 pins' σ3 σ' H' M (fun ds M1 => (ds.length = (P.exf c).length ∧ ∀ d ∈ ds, d.fmt) ∧ X3 (.exn c (exnF (P.exf c) ds)) σ3 M1) us s1 →
        wpAny (model X.prog X.w) X.A (call (.ref (ca c)) us) (L2N.MkP X pins' σ' Q) X.xe s1 := fun us s1 ⟨ds, M1, vs, H1, I1, r, rd, st, ⟨hl, hf⟩, q⟩ =>
      mk pins' s1 M0 M1 σ3 σ' H1 us vs ds Q I1 r rd hl hf fun d H2 st2 rm2 xo => hq _ _ _ ⟨σ3, M1, c, _, I1.lo.keep (st2.tupK I1.hp), rm2, I1.st.trans st2, xo, q⟩
    cases es with
    | nil =>
      have e := he rfl
      subst e
      exact PySem.W.callWith_K0 J.kIn E.kp (go [] s' ⟨[], M, [], H', I', .nil, rfl, Stp.refl, hw⟩)
    | cons e es =>
      refine PySem.W.callWith_K (h₀ := X.base) J.ok.mod.kin E.kp (thn (ha X3 tk pos pins' s' σ' H' σ3 M _ I' hw) fun us s1 h1 => ⟨?_, go us s1 h1⟩) (star_ok (hp e List.mem_cons_self)) (plain_any fun x hx => hp x (List.mem_cons_of_mem _ hx))
      obtain ⟨ds, M1, vs, H1, I1, _⟩ := h1
      exact I1.inv.kIn
  have run := (L2N.ps_raise (pos := pos') ok.hc tk pm).run pins s σ H ⟨fun _ _ => False, fun _ _ => False, fun _ _ => False, fun _ _ => False⟩ I.inv ⟨⟨rfl, rfl⟩, fun cls d H1 h => h⟩
  refine thn run fun f s' h => ?_
  cases f with
  | next => obtain ⟨_, _, _, z⟩ := h; exact z.elim
  | brk => obtain ⟨_, _, _, z⟩ := h; exact z.elim
  | cont => obtain ⟨_, _, _, z⟩ := h; exact z.elim
  | ret u => obtain ⟨_, _, _, _, _, z⟩ := h; exact z.elim
end
/-! ### isinstance of an exception with its dict -/
section
open PySem.W PySem.Calls PySem.Spec
variable {prog : Program} {w : World} {A : Around} {E : Value → Shared → Prop} {s : Shared} {K : Frag} {x D : Addr} {ox : Obj} {odo : Option Obj}
theorem findObj_dataO {C : Addr} {name : Str} {a g : Value} (hc : (clsIn K C).isSome = true) (ha : findIn K (.ref C) name = some (some a)) (hg : specialIn K a "__get__" = some (some g)) (ht : takesIn K a = some true) : findObj K C odo name = some (.bind g a) := by
  obtain ⟨cd, hc⟩ := Option.isSome_iff_exists.mp hc
  unfold findObj
  rw [hc, Option.bind_some, ha, Option.bind_some]
  simp [hg, ht]
theorem kin_classO {Q : Option Value → Shared → Prop} (C : L2.ExcC K D) (X : K.In s.heap) (I : InstAt s.heap x ox D odo) (h : Q (some (.ref D)) { s with toks := s.toks + 1 }) : wpAny (model prog w) A (getAttr? (.ref x) "__class__") Q E s := by
  have hf : findObj K D odo "__class__" = some (.bind (.builtin "getset_descriptor.__get__") (.builtin "object.__class__")) := findObj_dataO (by obtain ⟨cd, hc, _⟩ := any_some C.hd; rw [hc]; rfl) C.ha C.hn C.ht
  obtain ⟨hp, g, d, t, os⟩ := s
  have L0 := I.type (M := model prog w)
  have L1 := looks_findIn (M := model prog w) X C.hg
  have L2 := looks_findIn (M := model prog w) X C.hk
  have L3 := looks_find (M := model prog w) X I hf
  have sub : Looks (model prog w) hp (isInstance (.ref x) (.type "BaseException")) true := L0.andThen (looks_subIn X C.hs)
  have hx0 : (false && onTheHeap (Value.builtin "BaseException.__getattribute__")) = false := rfl
  have hx2 : (Value.builtin "BaseException.__getattribute__" == Value.builtin "object.__getattribute__") = false := by decide +kernel
  have hx1 : (onTheHeap (Value.ref D) && Value.builtin "BaseException.__getattribute__" == Value.builtin "object.__getattribute__") = false := by rw [hx2]; rfl
  unfold getAttr? getAttrBy? getAttrBy
  refine wpAny_bind (wpAny_mkText (wpAny_bind (wpAny_attempt (wpAny_holding (wpAny_bind (L0.at (wpAny_bind (L1.at ?_))))))))
  show wpAny _ _ (if (onTheHeap (Value.ref D) && Value.builtin "BaseException.__getattribute__" == Value.builtin "object.__getattribute__") = true then _ else _) _ _ _
  rw [hx1, if_neg Bool.false_ne_true]
  unfold getAttrByItsOwn hookBefore
  refine wpAny_bind ?_
  rw [if_pos (show onTheHeap (Value.ref D) = true from rfl)]
  refine L2.at ?_
  refine wpAny_bind (wpAny_attempt (wpAny_holding ?_))
  unfold callGetattribute
  rw [hx0, if_neg Bool.false_ne_true]
  unfold boundAndCalled
  rw [PySem.F.excAttr_ValueError.ga.bind (.ref x)]
  refine wpAny_bind (wpAny_pure ?_)
  show wpAny _ _ (call (.builtin "BaseException.__getattribute__") [.ref x, .str "__class__" t]) _ _ _
  refine wpAny_call (codeAny_call_builtin PySem.F.excAttr_ValueError.ga.plain PySem.F.entry_bexc_ga ?_)
  refine @check_slot (model prog w) _ _ ⟨hp, g, d, t + 1, os⟩ "BaseException.__getattribute__" "BaseException" "__getattribute__" (.ref x) [.str "__class__" t] [] _ (by decide +kernel) (by decide +kernel) sub (PySem.F.args_bexc_ga (.ref x) (.str "__class__" t)) ?_
  unfold Builtin.«object.__getattribute__»
  refine wpAny_bind (wpAny_of_eq (a := ((Value.ref x : Value), [Value.str "__class__" t])) (by first | rfl | (simp only [slotArgs]; rfl)) ?_)
  refine wpAny_bind (wpAny_pure (wpAny_bind (L0.at (wpAny_bind (L3.at ?_)))))
  show wpAny _ _ (holding [Value.builtin "object.__class__"] (call (.builtin "getset_descriptor.__get__") [.builtin "object.__class__", .ref x, .ref D]) >>= ret) _ _ _
  refine wpAny_bind (wpAny_holding (wpAny_call (class_get (s := ⟨hp, g, d, t + 1, os⟩) (ox := ox) (od := odo) X I C.hm ?_)))
  refine wpAny_pure ?_
  show wpAny _ _ (handedOut (.ref D)) _ _ _
  rw [handedOut_of (v := .ref D) rfl]
  first
    | exact wpAny_pure (wpAny_pure h)
    | exact wpAny_pure h
    | exact wpAny_pure (wpAny_bind (wpAny_pure (wpAny_pure h)))
theorem kitx_excO (C : L2.ExcC K D) : KitX K (.ref x) (.ref D) (fun h => InstAt h x ox D odo) where
  ty := fun _ _ _ I => I.type
  it := fun _ _ X _ => by
    obtain ⟨cdD, hcD, _⟩ := any_some C.hd
    unfold clsIn at hcD
    split at hcD
    · rename_i c' d' cd' sl' ho
      intro A' Q' E' s' k q
      unfold isType loadHead
      exact wpAny_bind (wpAny_loadPart (k _ _ (X _ _ ho)) (wpAny_pure q))
    · cases hcD
  ne := fun h tp dd its n sl X htp => by
    obtain ⟨cdD, hcD, _⟩ := any_some C.hd
    refine Bool.eq_false_iff.mpr fun q => ?_
    have e : D = tp := Value.ref.inj (beq_iff_eq.mp q)
    subst e
    unfold clsIn at hcD
    split at hcD
    · rename_i c' d' cd' sl' ho
      have z := (X _ _ ho).symm.trans htp
      cases z
    · cases hcD
  ca := fun X I k => kin_classO C X I k
end
/-! ### a handler's suite -/
section
variable {ca : Nat → Addr} {X : Cx} {M0 M : Mp} {pins : List (Addr × Obj)} {σ3 : Lo} {σ : L2.St} {H : Hp} {s : Shared} {P : Pr} {cc : CC}
variable {a : Addr} {oe : Obj} {pn : List (Addr × Obj)} {cls : Value} {d : Option Addr} {c i : Nat} {fs : List D}
theorem hev_fld {f : Str} {dv : D} (h : hev P c fs (.fld f) = some dv) : (P.exf c).contains f = true ∧ exnG f fs = some dv := by
  unfold hev at h
  split at h
  · rename_i h1; exact ⟨h1, h⟩
  · cases h
/-- a handler's expression is sound -/
def SndHE (ca : Nat → Addr) (Y : Cx) (P : Pr) (a : Addr) (i : Nat) (cls : Value) (d : Option Addr) (c : Nat) (fs : List D) (e : Expr) (ie : HE) : Prop :=
  ∀ (pins : List (Addr × Obj)) (s : Shared) (σ : L2.St) (H : Hp) (M0 M : Mp) (σ3 : Lo) (dv : D), I3 (ct Y ca) Y M0 pins σ3 M σ H s → σ[i]? = some (some (.ref a)) → XO (ct Y ca) H cls d c fs → hev P c fs ie = some dv →
    wpAny (model Y.prog Y.w) Y.A (eval e Y.env) (EP3 (ct Y ca) Y M0 pins σ3 σ H M fun d' M' => d' = dv ∧ M' = M) Y.xe s
def SndHEs (ca : Nat → Addr) (Y : Cx) (P : Pr) (a : Addr) (i : Nat) (cls : Value) (d : Option Addr) (c : Nat) (fs : List D) (es : List Expr) (ies : HEs) : Prop :=
  ∀ (pos : Pos) (pins : List (Addr × Obj)) (s : Shared) (σ : L2.St) (H : Hp) (M0 M : Mp) (σ3 : Lo) (dvs : List D), I3 (ct Y ca) Y M0 pins σ3 M σ H s → σ[i]? = some (some (.ref a)) → XO (ct Y ca) H cls d c fs → hevs P c fs ies = some dvs →
    wpAny (model Y.prog Y.w) Y.A (spliced (backTo pos (starEach es Y.env))) (EPs3 (ct Y ca) Y M0 pins σ3 σ H M fun d' M' => d' = dvs ∧ M' = M) Y.xe s
theorem h_fld {x f : Str} {pos pos' : Pos} (ok : Ok3 ca X P cc) (hx : cc.slotW x = some i) (n1 : (x == ("__debug__" : Str)) = false) (n2 : (x == ("__classdict__" : Str)) = false) (hz : Zc cls d oe) (hf : ∃ vs, oe.data = .fields vs) :
    SndHE ca (X.suite a ((a, oe) :: pn)) P a i cls d c fs (.Attribute (.Name x pos) f pos') (.fld f) := by
  intro pins s σ H M0 M σ3 dv I hs xo h
  obtain ⟨h1, h2⟩ := hev_fld h
  obtain ⟨g1, g2, g3⟩ := slotW_ok ok hx
  have K := ok.g.exf c f h1
  obtain ⟨ec, xo⟩ := xo
  rcases xo with ⟨e, _⟩ | ⟨dd, gs, e1, e2, e3⟩
  · subst e; cases h2
  · obtain ⟨fm, l⟩ := e3 f dv h2
    have hv : Vis X.env.scope x := g2.elim .inl fun z => .inr (.inl z)
    exact thn ((pe_xf (n := f) K.t K.no hz hf (pe_var (X := X.suite a ((a, oe) :: pn)) (x := x) (pos := pos) g1 hv n1 n2) rfl).run pins s σ H (QV (ct X ca) H M fun d' M' => d' = dv ∧ M' = M) I.inv ⟨_, hs, rfl, ec, dd, gs, _, e1, e2, l, qv_now I.hp (fv_rd fm) ⟨rfl, rfl⟩⟩) fun _ _ e => ep_of I e
theorem h_int {k : Int} {j : Nat} {pos : Pos} {Y : Cx} : SndHE ca Y P a i cls d c fs (.Constant (.int k) j pos) (.int k) := fun pins s σ H M0 M σ3 dv I hs xo h => by
  cases h
  exact s_int (P := P) (X3 := fun _ _ _ => False) pins s σ H σ3 M _ I ⟨rfl, rfl⟩
theorem h_str {k : Str} {j : Nat} {pos : Pos} {Y : Cx} : SndHE ca Y P a i cls d c fs (.Constant (.str k) j pos) (.str k) := fun pins s σ H M0 M σ3 dv I hs xo h => by
  cases h
  exact s_str (P := P) (X3 := fun _ _ _ => False) pins s σ H σ3 M _ I ⟨rfl, rfl⟩
theorem h_bl {k : Bool} {j : Nat} {pos : Pos} {Y : Cx} : SndHE ca Y P a i cls d c fs (.Constant (.bool k) j pos) (.bl k) := fun pins s σ H M0 M σ3 dv I hs xo h => by
  cases h
  exact s_bl (P := P) (X3 := fun _ _ _ => False) pins s σ H σ3 M _ I ⟨rfl, rfl⟩
theorem h_non {j : Nat} {pos : Pos} {Y : Cx} : SndHE ca Y P a i cls d c fs (.Constant .none j pos) .non := fun pins s σ H M0 M σ3 dv I hs xo h => by
  cases h
  exact s_non (P := P) (X3 := fun _ _ _ => False) pins s σ H σ3 M _ I ⟨rfl, rfl⟩
theorem h_nil {Y : Cx} : SndHEs ca Y P a i cls d c fs [] .nil := fun pos pins s σ H M0 M σ3 dvs I hs xo h => by
  cases h
  exact Calls.spliced_nil ⟨[], M, [], H, I, .nil, rfl, Stp.refl, rfl, rfl⟩
theorem h_cons {e : Expr} {es : List Expr} {ie : HE} {ies : HEs} {Y : Cx} (hn : notStar e = true) (he : SndHE ca Y P a i cls d c fs e ie) (hes : SndHEs ca Y P a i cls d c fs es ies) : SndHEs ca Y P a i cls d c fs (e :: es) (.cons ie ies) := by
  intro pos pins s σ H M0 M σ3 dvs I hs xo h
  unfold hevs at h
  split at h
  · rename_i d1 ds1 h1 h2
    cases h
    rw [star_ok hn]
    show wpAny _ _ (spliced ((false, eval e Y.env) :: backTo pos (starEach es Y.env))) _ _ s
    refine Calls.spliced_cons (thn (he pins s σ H M0 M σ3 d1 I hs xo h1) fun v s1 ⟨x, M1, av, H1, I1, rv, rd, st, e1, e2⟩ => ?_)
    subst e1 e2
    refine thn (hes pos pins s1 σ H1 M0 M1 σ3 ds1 I1 hs (xo.keep I.hp st) h2) fun us s2 ⟨ds, M2, vs, H2, I2, rv2, rd2, st2, e3, e4⟩ => ?_
    subst e3 e4
    exact ⟨x :: ds, M2, av :: vs, H2, I2, .cons rv rv2, ⟨av, vs, rfl, rd.keep (st2.tupK I1.hp), rd2⟩, st.trans st2, rfl, rfl⟩
  · cases h
theorem le30 {n : Nat} (h : n ≤ 30) : n ≤ sizeLine := by rw [sizeLine_eq]; omega
theorem h_tup {es : List Expr} {ies : HEs} {x1 : Nat} {pos : Pos} {Y : Cx} (hes : SndHEs ca Y P a i cls d c fs es ies) : SndHE ca Y P a i cls d c fs (.Tuple es x1 pos) (.tup ies) := by
  intro pins s σ H M0 M σ3 dv I hs xo h
  unfold hev at h
  split at h
  · rename_i ds0 h1
    split at h
    · rename_i hz
      cases h
      refine wpAny_Tuple_spliced (thn (hes pos pins s σ H M0 M σ3 ds0 I hs xo h1) fun us s1 ⟨ds, M1, vs, H1, I1, rv, rd, st, e1, e2⟩ => ?_)
      subst e1 e2
      refine ⟨by rw [← rv.length, ← rd.length]; exact le30 hz, ?_⟩
      have hf : H1 s1.heap.objs.size = none := I1.inv.hok.fresh (Nat.le_refl _)
      have J : Inv Y pins σ (upd H1 s1.heap.objs.size (.tup vs)) { s1 with heap := s1.heap.push { cls := .type "tuple", data := .seq us.toArray } } :=
        I1.inv.laid (t' := s1.toks) (fun b u e => Heap.get?_push_of_some _ e) (Nat.le_refl _) ⟨by rw [← rd.length]; exact le30 hz, us, rv, ⟨_, Heap.get?_push_size _ rfl, rfl, _, rfl⟩⟩
      exact ep_st st (ep_of I1 ⟨.ref s1.heap.objs.size, _, J, rfl, qv_tup I1.hp hf rd ⟨rfl, rfl⟩⟩)
    · cases h
  · cases h
theorem h_inst {x k : Str} {p p1 p2 pos : Pos} {c2 : Nat} (ok : Ok3 ca X P cc) (hi : cc.glob "isinstance" = some .blt) (hk : cc.glob k = some (.exc c2)) (hx : cc.slotW x = some i) (n1 : (x == ("__debug__" : Str)) = false) (n2 : (x == ("__classdict__" : Str)) = false)
    (hz : Zc cls d oe) (hf : ∃ vs, oe.data = .fields vs) : SndHE ca (X.suite a ((a, oe) :: pn)) P a i cls d c fs (.Call (.Name "isinstance" p) [.Name x p1, .Name k p2] [] pos) (.inst (.own c2)) := by
  intro pins s σ H M0 M σ3 dv I hs xo h
  obtain ⟨g1, g2, g3⟩ := slotW_ok ok hx
  obtain ⟨hg, hl, hd, hnn⟩ := glob_ok ok hi
  obtain ⟨hg2, hl2, hd2, _⟩ := glob_ok ok hk
  obtain ⟨hm, _⟩ := ok.g.exc k c2 hl2
  have hv : Vis X.env.scope x := g2.elim .inl fun z => .inr (.inl z)
  unfold hev at h
  obtain ⟨b, hb, e⟩ := Option.map_eq_some_iff.mp h
  subst e
  obtain ⟨EC, hone⟩ : ExcC X.K (ca c) ∧ PySem.W.kitOne X.K (.ref (ca c)) (.ref (ca c2)) = some b := ok.g.isx c (.own c2) b hb
  obtain ⟨ec, xo⟩ := xo
  have ec : cls = .ref (ca c) := ec
  have hp : Plain [.Name k p2] := fun x hx => by
    rw [List.mem_singleton] at hx
    subst hx
    rfl
  refine wpAny_Call_Name_kw (ld_blt (X := X.suite a ((a, oe) :: pn)) I.inv hg (ok.g.blt _ hl) boot_isinstance ?_ hnn hd)
  refine callWith_builtin1 ?_ (star_ok rfl) (plain_any hp)
  rw [star_ok rfl]
  show wpAny _ _ (spliced ((false, eval (.Name x p1) X.env) :: backTo pos (starEach [.Name k p2] X.env))) _ _ s
  refine Calls.spliced_cons (thn ((pe_var (X := X.suite a ((a, oe) :: pn)) (x := x) (pos := p1) g1 hv n1 n2).run pins s σ H (fun v H' => v = .ref a ∧ H' = H) I.inv ⟨_, hs, rfl, rfl⟩) fun u s1 ⟨v, H1, I1, rv, e1, e2⟩ => ?_)
  subst e1 e2
  cases rv
  show wpAny _ _ (spliced ((false, eval (.Name k p2) X.env) :: backTo pos (starEach [] X.env))) _ _ s1
  refine Calls.spliced_cons (ld_glob (X := X.suite a ((a, oe) :: pn)) I1 hg2 hm (Calls.spliced_nil ?_) hd2)
  obtain ⟨hget, _⟩ := I1.pin (a, oe) (List.mem_append_left _ List.mem_cons_self)
  obtain ⟨vs, hvd⟩ := hf
  have nc : PySem.W.notCls oe := by unfold PySem.W.notCls; rw [hvd] <;> rfl
  obtain ⟨odo, J⟩ : ∃ odo, PySem.W.InstAt s1.heap a oe (ca c) odo := by
    rcases xo with ⟨_, ed⟩ | ⟨dd, gs, ed, ea, _⟩
    · refine ⟨none, hget, by rw [hz.1, ec], nc, ?_⟩
      rw [hz.2, ed]
      trivial
    · obtain ⟨mA, hns, hr⟩ : ObjOk X.prog X.w H1 s1.heap dd (.xd gs) := I1.hok dd _ ea
      obtain ⟨od, ho, hl⟩ := lookIn_ns hns
      exact ⟨some od, hget, by rw [hz.1, ec], nc, by rw [hz.2, ed]; exact ho⟩
  exact PySem.W.kia_one (kitx_excO EC) I1.kIn J hone (fun z => nomatch z) fun tk => ep_bl (I.same I1) (I1.kept (t' := tk) fun _ _ z => z) ⟨rfl, rfl⟩
/-- a handler's statement has come to its end -/
def HP3 (C : Ct) (Y : Cx) (M0 : Mp) (pins : List (Addr × Obj)) (σ3 : Lo) (σ : L2.St) (H : Hp) (M : Mp) (K : Ends) (f : Flow) (s' : Shared) : Prop := match f with
  | .next => ∃ M' H', I3 C Y M0 pins σ3 M' σ H' s' ∧ Stp H M H' M' ∧ K.nx σ3 M'
  | .ret u => ∃ dv v M' H', I3 C Y M0 pins σ3 M' σ H' s' ∧ Stp H M H' M' ∧ RelV v u ∧ RD C H' dv v ∧ K.rt dv M'
  | _ => False
theorem HP3.from {C : Ct} {Y : Cx} {H1 : Hp} {M1 : Mp} {K : Ends} {f : Flow} {s' : Shared} (st : Stp H M H1 M1) (h : HP3 C Y M0 pins σ3 σ H1 M1 K f s') : HP3 C Y M0 pins σ3 σ H M K f s' := by
  cases f with
  | next => obtain ⟨M', H', I, st2, q⟩ := h; exact ⟨M', H', I, st.trans st2, q⟩
  | ret u => obtain ⟨dv, v, M', H', I, st2, q⟩ := h; exact ⟨dv, v, M', H', I, st.trans st2, q⟩
  | _ => exact h
def SndHS (ca : Nat → Addr) (Y : Cx) (P : Pr) (a : Addr) (i : Nat) (cls : Value) (d : Option Addr) (c : Nat) (fs : List D) (e : Stmt) (ie : HS) : Prop :=
  ∀ (pins : List (Addr × Obj)) (s : Shared) (σ : L2.St) (H : Hp) (M0 M : Mp) (σ3 : Lo) (K : Ends), I3 (ct Y ca) Y M0 pins σ3 M σ H s → σ[i]? = some (some (.ref a)) → XO (ct Y ca) H cls d c fs → wpH P c fs ie K σ3 M →
    wpAny (model Y.prog Y.w) Y.A (exec e Y.env) (HP3 (ct Y ca) Y M0 pins σ3 σ H M K) Y.xe s
def SndHSs (ca : Nat → Addr) (Y : Cx) (P : Pr) (a : Addr) (i : Nat) (cls : Value) (d : Option Addr) (c : Nat) (fs : List D) (es : List Stmt) (ies : HSs) : Prop :=
  ∀ (pins : List (Addr × Obj)) (s : Shared) (σ : L2.St) (H : Hp) (M0 M : Mp) (σ3 : Lo) (K : Ends), I3 (ct Y ca) Y M0 pins σ3 M σ H s → σ[i]? = some (some (.ref a)) → XO (ct Y ca) H cls d c fs → wpHs P c fs ies K σ3 M →
    wpAny (model Y.prog Y.w) Y.A (execs es Y.env) (HP3 (ct Y ca) Y M0 pins σ3 σ H M K) Y.xe s
theorem hs_ret {e : Expr} {ie : HE} {pos : Pos} {Y : Cx} (he : SndHE ca Y P a i cls d c fs e ie) : SndHS ca Y P a i cls d c fs (.Return (some e) pos) (.ret ie) := by
  intro pins s σ H M0 M σ3 K I hs xo ⟨dv, h1, h2⟩
  refine wpAny_Return_some (thn (he pins s σ H M0 M σ3 dv I hs xo h1) fun v s1 ⟨x, M1, av, H1, I1, rv, rd, st, e1, e2⟩ => ?_)
  subst e1 e2
  exact ⟨x, av, M1, H1, I1, st, rv, rd, h2⟩
theorem hs_retL {es : List Expr} {ies : HEs} {p pos : Pos} {Y : Cx} (hes : SndHEs ca Y P a i cls d c fs es ies) : SndHS ca Y P a i cls d c fs (.Return (some (.List es p)) pos) (.retL ies) := by
  intro pins s σ H M0 M σ3 K I hs xo ⟨ds0, h1, hz, h2⟩
  refine wpAny_Return_some (wpAny_List_spliced (thn (hes p pins s σ H M0 M σ3 ds0 I hs xo h1) fun us s1 ⟨ds, M1, vs, H1, I1, rv, rd, st, e1, e2⟩ => ?_))
  subst e1 e2
  refine ⟨by rw [← rv.length, ← rd.length]; exact le30 hz, ?_⟩
  have hf : H1 s1.heap.objs.size = none := I1.inv.hok.fresh (Nat.le_refl _)
  have J : Inv Y pins σ (upd H1 s1.heap.objs.size (.lst vs)) { s1 with heap := s1.heap.push { cls := .type "list", data := .seq us.toArray } } :=
    I1.inv.laid (t' := s1.toks) (fun b u e => Heap.get?_push_of_some _ e) (Nat.le_refl _) ⟨by rw [← rd.length]; exact le30 hz, us, 0, rv, Heap.get?_push_size _ rfl⟩
  have st1 : Stp H1 M1 (upd H1 s1.heap.objs.size (.lst vs)) (mset M1 s1.heap.objs.size (.lst ds)) := mset_stp hf
  exact ⟨.ref s1.heap.objs.size, .ref s1.heap.objs.size, _, _, I1.to J (RM.new (m := .lst ds) I1.hp hf (RDs.keep (tupK_new hf) rd)) st1, st.trans st1, rfl, rfl, h2 _ (I1.hp.free hf)⟩
theorem hs_ite {e : Expr} {a1 b1 : List Stmt} {ie : HE} {ia ib : HSs} {pos : Pos} {Y : Cx} (hc : callTest e = true) (he : SndHE ca Y P a i cls d c fs e ie) (ha : SndHSs ca Y P a i cls d c fs a1 ia) (hb : SndHSs ca Y P a i cls d c fs b1 ib) :
    SndHS ca Y P a i cls d c fs (.If e a1 b1 pos) (.ite ie ia ib) := by
  intro pins s σ H M0 M σ3 K I hs xo ⟨r, h1, h2⟩
  have ht : isTrue e Y.env (eval e Y.env) = (do let v ← eval e Y.env; standAt e.pos; holding [v] (PySem.truthy v)) := by
    cases e <;> first | rfl | cases hc
  refine wpAny_If (isTrue_plain (thn (he pins s σ H M0 M σ3 (.bl r) I hs xo h1) fun v s1 ⟨x, M1, av, H1, I1, rv, rd, st, e1, e2⟩ => ?_) ht)
  subst e1 e2
  have ev : av = .bl r := rd
  subst ev
  cases rv
  refine wpAny_truthy_bool ?_
  cases r with
  | true => exact thn (ha pins s1 σ H1 M0 M1 σ3 K I1 hs (xo.keep I.hp st) h2) fun _ _ q => q.from st
  | false => exact thn (hb pins s1 σ H1 M0 M1 σ3 K I1 hs (xo.keep I.hp st) h2) fun _ _ q => q.from st
theorem hs_nil {Y : Cx} : SndHSs ca Y P a i cls d c fs [] .nil := fun pins s σ H M0 M σ3 K I hs xo h => wpAny_execs_nil ⟨M, H, I, Stp.refl, h⟩
theorem hs_cons {e : Stmt} {es : List Stmt} {ie : HS} {ies : HSs} {Y : Cx} (he : SndHS ca Y P a i cls d c fs e ie) (hes : SndHSs ca Y P a i cls d c fs es ies) : SndHSs ca Y P a i cls d c fs (e :: es) (.cons ie ies) := by
  intro pins s σ H M0 M σ3 K I hs xo h
  refine wpAny_execs_cons (thn (he pins s σ H M0 M σ3 _ I hs xo h) fun f s1 q => ?_)
  cases f with
  | next =>
    obtain ⟨M1, H1, I1, st, q⟩ := q
    exact thn (hes pins s1 σ H1 M0 M1 σ3 K I1 hs (xo.keep I.hp st) q) fun _ _ e => e.from st
  | ret v => exact q
  | brk => exact q
  | cont => exact q
theorem hs_bad {e : Stmt} {Y : Cx} : SndHS ca Y P a i cls d c fs e .bad := fun pins s σ H M0 M σ3 K I hs xo h => False.elim h
/-- every compiled handler is sound -/
def AllH (n : Nat) : Prop := ∀ (ca : Nat → Addr) (X : Cx) (P : Pr) (cc : CC), Ok3 ca X P cc → ∀ (y : Str) (i : Nat), cc.slotW y = some i → (y == ("__debug__" : Str)) = false → (y == ("__classdict__" : Str)) = false →
  ∀ (a : Addr) (oe : Obj) (pn : List (Addr × Obj)) (cls : Value) (d : Option Addr) (c : Nat) (fs : List D), Zc cls d oe → (∃ vs, oe.data = .fields vs) →
  (∀ e ie, cHE n cc y e = some ie → SndHE ca (X.suite a ((a, oe) :: pn)) P a i cls d c fs e ie) ∧ (∀ es ies, cHEs n cc y es = some ies → SndHEs ca (X.suite a ((a, oe) :: pn)) P a i cls d c fs es ies) ∧
  (∀ e ie, cHS n cc y e = some ie → SndHS ca (X.suite a ((a, oe) :: pn)) P a i cls d c fs e ie) ∧ (∀ es ies, cHSs n cc y es = some ies → SndHSs ca (X.suite a ((a, oe) :: pn)) P a i cls d c fs es ies)
theorem allH : ∀ n, AllH n
  | 0 => fun ca X P cc ok y i hy n1 n2 a oe pn cls d c fs hz hf => ⟨fun e i h => by simp [cHE] at h, fun e i h => by simp [cHEs] at h, fun e i h => by simp [cHS] at h, fun e i h => by simp [cHSs] at h⟩
  | n + 1 => fun ca X P cc ok y i hy n1 n2 a oe pn cls d c fs hz hf => by
    obtain ⟨hE, hEs, hS, hSs⟩ := allH n ca X P cc ok y i hy n1 n2 a oe pn cls d c fs hz hf
    have hD : ∀ st : Stmt, SndHS ca (X.suite a ((a, oe) :: pn)) P a i cls d c fs st ((cHS n cc y st).getD .bad) := fun st => by
      cases e2 : cHS n cc y st with
      | none => exact hs_bad
      | some s' => exact hS _ _ e2
    refine ⟨fun e ie h => ?_, fun es ies h => ?_, fun e ie h => ?_, fun es ies h => ?_⟩
    · unfold cHE at h
      split at h
      · obtain ⟨hm, h9⟩ := if_some h
        clear h
        have hm := eq_of_beq hm
        subst hm
        cases h9; exact h_fld ok hy n1 n2 hz hf
      · obtain ⟨hm, h9⟩ := if_some h
        clear h
        have hm := eq_of_beq hm
        subst hm
        split at h9
        · rename_i h1 h2
          cases h9; exact h_inst ok h1 h2 hy n1 n2 hz hf
        · cases h9
      · split at h
        · cases h; exact h_int
        · cases h; exact h_bl
        · cases h; exact h_str
        · cases h; exact h_non
        · cases h
      · split at h
        · rename_i h1
          cases h; exact h_tup (hEs _ _ h1)
        · cases h
      · cases h
    · unfold cHEs at h
      split at h
      · rename_i e; cases e
      · cases h; exact h_nil
      · rename_i e1
        cases e1
        obtain ⟨hm, h⟩ := if_some h
        split at h
        · rename_i h1 h2
          cases h; exact h_cons hm (hE _ _ h1) (hEs _ _ h2)
        · cases h
    · unfold cHS at h
      split at h
      · split at h
        · rename_i h1
          cases h; exact hs_retL (hEs _ _ h1)
        · cases h
      · split at h
        · rename_i h1
          cases h; exact hs_ret (hE _ _ h1)
        · cases h
      · obtain ⟨hm, h⟩ := if_some h
        split at h
        · rename_i h1 h2 h3
          cases h; exact hs_ite hm (hE _ _ h1) (hSs _ _ h2) (hSs _ _ h3)
        · cases h
      · cases h
    · unfold cHSs at h
      split at h
      · rename_i e; cases e
      · cases h; exact hs_nil
      · rename_i e1
        cases e1
        split at h
        · rename_i h2
          cases h
          exact hs_cons (hD _) (hSs _ _ h2)
        · cases h
end
/-! ### try -/
section
variable {ca : Nat → Addr} {X : Cx} {M0 M : Mp} {P : Pr} {cc : CC} {C : Ct} {H : Hp}
theorem RL.setNone {σ3 : Lo} {σ : L2.St} (h : RL C H σ3 σ) (i : Nat) (x : Option V) : RL C H (σ3.set i none) (σ.set i x) := by
  refine ⟨by rw [List.length_set, List.length_set]; exact h.1, fun j d' e => ?_⟩
  by_cases hj : i = j
  · subst hj
    by_cases hl : i < σ3.length
    · rw [List.getElem?_set_self hl] at e
      cases e
    · rw [List.getElem?_eq_none (by rw [List.length_set]; omega)] at e
      cases e
  · rw [List.getElem?_set_ne hj] at e
    obtain ⟨v, e1, r⟩ := h.2 j d' e
    exact ⟨v, by rw [List.getElem?_set_ne hj]; exact e1, r⟩
theorem RL.nones {σ : L2.St} : RL C H (List.replicate σ.length none) σ := by
  refine ⟨List.length_replicate, fun j d e => ?_⟩
  rw [List.getElem?_replicate] at e
  split at e <;> cases e
/-- what stands in the hand layer's ends -/
def EndsIn (ca : Nat → Addr) (X : Cx) (M0 : Mp) (K : Ends) : L2.Ends where
  nx := fun σ H => ∃ σ3 M, RL (ct X ca) H σ3 σ ∧ RM (ct X ca) H M ∧ Stp X.H_0 M0 H M ∧ K.nx σ3 M
  rt := fun v H => ∃ d M, RM (ct X ca) H M ∧ Stp X.H_0 M0 H M ∧ RD (ct X ca) H d v ∧ K.rt d M
  bk := fun σ H => ∃ σ3 M, RL (ct X ca) H σ3 σ ∧ RM (ct X ca) H M ∧ Stp X.H_0 M0 H M ∧ K.bk σ3 M
  ct := fun σ H => ∃ σ3 M, RL (ct X ca) H σ3 σ ∧ RM (ct X ca) H M ∧ Stp X.H_0 M0 H M ∧ K.ct σ3 M
theorem ends_out {pins : List (Addr × Obj)} {K : Ends} {Hb : Hp} {f : Flow} {s' : Shared} (h : SP X pins (EndsIn ca X M0 K) f s') : SP3 false (ct X ca) X M0 pins Hb K f s' := by
  have no : ∀ {H H' : Hp}, KpT false H H' := fun e => nomatch e
  cases f with
  | next => obtain ⟨σ, H, I, σ3, M, h1, h2, h3, h4⟩ := h; exact ⟨σ3, M, σ, H, ⟨I, h1, h2, h3⟩, no, h4⟩
  | brk => obtain ⟨σ, H, I, σ3, M, h1, h2, h3, h4⟩ := h; exact ⟨σ3, M, σ, H, ⟨I, h1, h2, h3⟩, no, h4⟩
  | cont => obtain ⟨σ, H, I, σ3, M, h1, h2, h3, h4⟩ := h; exact ⟨σ3, M, σ, H, ⟨I, h1, h2, h3⟩, no, h4⟩
  | ret u => obtain ⟨v, σ, H, I, r, d, M, h1, h2, h3, h4⟩ := h; exact ⟨d, v, _, M, σ, H, ⟨I, RL.nones, h1, h2⟩, no, r, h3, h4⟩
theorem ends_in {pins : List (Addr × Obj)} {K : Ends} {Hb : Hp} {b : Bool} {f : Flow} {s' : Shared} (h : SP3 b (ct X ca) X M0 pins Hb K f s') : SP X pins (EndsIn ca X M0 K) f s' := by
  cases f with
  | next => obtain ⟨σ3, M, σ, H, I, _, h4⟩ := h; exact ⟨σ, H, I.inv, σ3, M, I.lo, I.hp, I.st, h4⟩
  | brk => obtain ⟨σ3, M, σ, H, I, _, h4⟩ := h; exact ⟨σ, H, I.inv, σ3, M, I.lo, I.hp, I.st, h4⟩
  | cont => obtain ⟨σ3, M, σ, H, I, _, h4⟩ := h; exact ⟨σ, H, I.inv, σ3, M, I.lo, I.hp, I.st, h4⟩
  | ret u => obtain ⟨d, v, σ3, M, σ, H, I, _, r, h3, h4⟩ := h; exact ⟨v, σ, H, I.inv, r, d, M, I.hp, I.st, h3, h4⟩
theorem st_try {b : List Stmt} {x y : Str} {np pos pos' : Pos} {h0 : Stmt} {h : List Stmt} {ib : Ss} {ih : HSs} {c i : Nat} (ok : Ok3 ca X P cc) (hst : X.stack = X.env :: X.outer) (hfr : X.env.frame = some X.env.locals) (hx : cc.glob x = some (.exc c)) (hy : cc.slotW y = some i)
    (hln : cc.sc.names.lookup y = some .local) (hb : ∀ (pn : List (Addr × Obj)) (xe : Value → Shared → Prop), PassesOwn (model X.prog X.w) X.A X.env xe → SndSs false ca (X.tr pn xe) M0 P b ib)
    (hh : ∀ (a : Addr) (oe : Obj) (cls : Value) (d : Option Addr) (c' : Nat) (fs : List D) (pn : List (Addr × Obj)), Zc cls d oe → (∃ vs, oe.data = .fields vs) → SndHSs ca (X.suite a ((a, oe) :: pn)) P a i cls d c' fs (h0 :: h) ih) :
    SndS false ca X M0 P (.Try b [.ExceptHandler (some (.Name x np)) (some y) (h0 :: h) pos'] [] [] pos) (.tryE ib c i ih) := by
  intro X3 tk pins s σ H σ3 M K I hw
  obtain ⟨g1, g2, g3⟩ := slotW_ok ok hy
  obtain ⟨hg, hl, hd, _⟩ := glob_ok ok hx
  obtain ⟨hm, _, _, hsub⟩ := ok.g.exc x c hl
  let Xb : Xs := fun x σ1 M1 => match x with
    | .exn c' ds => ∃ r, P.sub c' c = some r ∧ if r = true then wpHs P c' ds ih K (σ1.set i none) M1 else X3 x σ1 M1
    | _ => False
  have hw : wpSs P ib Xb K σ3 M := hw
  let ts : Addr → Value → Option Addr → TS := fun a cls d D' σ H => (i < σ.length → σ[i]? = some (some (.ref a))) ∧ ∃ σ3 M c' ds, RL (ct X ca) H σ3 σ ∧ RM (ct X ca) H M ∧ Stp X.H_0 M0 H M ∧ XO (ct X ca) H cls d c' ds ∧ wpHs P c' ds ih K σ3 M ∧
    (∀ M' H', RL (ct X ca) H' σ3 σ → RM (ct X ca) H' M' → Stp X.H_0 M0 H' M' → K.nx σ3 M' → D'.nx σ H') ∧ ∀ dv v M' H', RM (ct X ca) H' M' → Stp X.H_0 M0 H' M' → RD (ct X ca) H' dv v → K.rt dv M' → D'.rt v H'
  let tb : WX → TS := fun W D σ H => ∃ σ3 M X4 K', (RL (ct X ca) H σ3 σ ∧ RM (ct X ca) H M ∧ Stp X.H_0 M0 H M) ∧ wpSs P ib X4 K' σ3 M ∧ (∀ cls d σ H, WX3 ca X M0 X4 cls d σ H → W cls d σ H) ∧ D = EndsIn ca X M0 K'
  have hts : ∀ (a : Addr) (oe : Obj) (cls : Value) (d : Option Addr) (pn : List (Addr × Obj)), L2N.Zn cls d oe → (∃ vs, oe.data = .fields vs) → PSs (X.suite a ((a, oe) :: pn)) (h0 :: h) (ts a cls d) := by
    refine fun a oe cls d pn hz hf => ⟨fun pins s σ H D' J ⟨hsl, σ3, M, c', ds, rl, rm, st, xo, hw, e1, e2⟩ => ?_⟩
    have hi : i < σ.length := by
      have z : σ.length = X.N.length := J.len
      have z2 := (List.getElem?_eq_some_iff.mp g1).1
      omega
    refine thn (hh a oe cls d c' ds pn hz.zc hf pins s σ H M0 M σ3 K ⟨J, rl, rm, st⟩ (hsl hi) xo hw) fun f s1 q => ?_
    cases f with
    | next => obtain ⟨M', H', I', _, q⟩ := q; exact ⟨σ, H', I'.inv, e1 M' H' I'.lo I'.hp I'.st q⟩
    | ret u => obtain ⟨dv, v, M', H', I', _, r, rd, q⟩ := q; exact ⟨v, σ, H', I'.inv, r, e2 dv v M' H' I'.hp I'.st rd q⟩
    | brk => exact q.elim
    | cont => exact q.elim
  have htb : ∀ (W : WX) (pn : List (Addr × Obj)) (xe : Value → Shared → Prop), L2N.Takes (X.tr pn xe) W → PassesOwn (model X.prog X.w) X.A X.env xe → PSs (X.tr pn xe) b (tb W) := by
    refine fun W pn xe tkW hp => ⟨fun pins s σ H D J ⟨σ3, M, X4, K', ⟨rl, rm, st⟩, hw, hW, eD⟩ => ?_⟩
    subst eD
    have tk4 : TK ca (X.tr pn xe) M0 X4 := L2N.Takes.imp tkW fun cls d σ H z => hW cls d σ H z
    exact thn (hb pn xe hp X4 tk4 pins s σ H σ3 M K' ⟨J, rl, rm, st⟩ hw) fun f s1 q => ends_in (X := X.tr pn xe) q
  have hln' : X.env.kindOf y = some .local := by
    rw [ok.sc] at hln
    exact hln
  have run := (L2N.ps_try_as (b₀ := h0) (suite := h) (pos := pos) (pos' := pos') (np := np) (x := x) (c := .ref (ca c)) (tb := tb) (ts := ts) hst hfr ok.nd g1 hln' ⟨hg, hd, .inl hm⟩ tk htb hts).run pins s σ H (EndsIn ca X M0 K) I.inv
    ⟨σ3, M, Xb, K, ⟨I.lo, I.hp, I.st⟩, hw, ?_, rfl⟩
  · exact thn run fun f s1 q => ends_out q
  · rintro cls d σ H ⟨σ3', M', c', ds, rl, rm, st, xo, r, hr, hi⟩
    refine ⟨r, by rw [xo.1]; exact hsub c' r hr, fun er a ha => ⟨fun hlt => ?_, σ3'.set i none, M', c', ds, rl.setNone i _, rm, st, xo, ?_, ?_, ?_⟩, fun er => ?_⟩
    · rw [List.length_set] at hlt
      rw [List.getElem?_set_self hlt]
    · subst er
      exact hi
    · intro M2 H2 rl2 rm2 st2 q
      refine ⟨σ3'.set i none, M2, ?_, rm2, st2, q⟩
      have z := rl2.setNone i none
      rw [List.set_set] at z
      exact z
    · intro dv v M2 H2 rm2 st2 rd q
      exact ⟨dv, M2, rm2, st2, rd, q⟩
    · subst er
      exact ⟨σ3', M', c', ds, rl, rm, st, xo, hi⟩
end
end L3
end
section
set_option autoImplicit false
set_option linter.all false
set_option maxRecDepth 100000
/-! L3: the for loop -/
namespace L3
open PySem L2 PyProof.Rows
section
variable {ca : Nat → Addr} {X : Cx} {M0 M : Mp} {pins : List (Addr × Obj)} {σ3 : Lo} {σ : L2.St} {H : Hp} {s : Shared} {P : Pr} {cc : CC} {kb : Bool}
/-! ### for -/
theorem st_for {tg e : Expr} {b : List Stmt} {pos : Pos} {t : Tg} {k : ItK} {es : Es} {ib : Ss} (hp : PassesOwn (model X.prog X.w) X.A X.env X.xe) (hc : X.calm = true) (hs : ∀ x, foldedSetIterable e X.env x = pure x)
    (hi : SndI ca X M0 P tg e k es) (ht : SndTg ca X M0 tg t) (hb : SndSs true ca X M0 P b ib) : SndS kb ca X M0 P (.For tg e b [] pos) (.for t k es ib) := by
  intro X3 tk pins s σ H σ3 M K I hw
  refine wpAny_For (thn (hi _ tk pins s σ H σ3 M _ I hw) fun v s1 h1 => thn h1 fun itv s2 h2 => ?_) hs
  obtain ⟨it, fp, tn, J, H2, M2, ds, G, fin, e, I2, T, st2, f2, sp2, hr, hf, w⟩ := h2
  subst e
  have stat : ∀ {H' : Hp}, (∀ b ∈ fp, H' b = none) → ∀ b ∈ fp, FpOk X pins H' b := fun hn b hb => ⟨hn b hb, (f2 b hb).2⟩
  have kH : TupK H H2 := sp2.tupK I.hp
  revert w
  generalize hE : (⟨fun σ M => K.nx σ (fin M), fun d M => K.rt d (fin M), fun σ M => K.nx σ (fin M), fun _ _ => False⟩ : Ends) = KE
  generalize hB : (fun (D : Ends) (σ : Lo) (M : Mp) => wpSs P ib (fun x σ M => fin = id ∧ X3 x σ M) D σ M) = B
  intro w
  -- the end of the loop
  have out : ∀ {σ3' : Lo} {M' : Mp} {σ' : L2.St} {H' : Hp} {s' : Shared}, I3 (ct X ca) X M0 pins σ3' M' σ' H' s' → TupK H H' → KE.nx σ3' M' → SP3 kb (ct X ca) X M0 pins H K .next s' := fun {σ3' M' σ' H' s'} I' k q => by
    subst hE
    obtain ⟨H'', I'', k', _⟩ := hf.2 _ _ _ _ _ _ _ I' k
    exact ⟨σ3', _, σ', H'', I'', k', q⟩
  have I3pin : ∀ {pl : List (Addr × Obj)} {σ3' : Lo} {M' : Mp} {σ' : L2.St} {H' : Hp} {s' : Shared}, I3 (ct X ca) X M0 (pins ++ pl) σ3' M' σ' H' s' → I3 (ct X ca) X M0 pins σ3' M' σ' H' s' := fun I' => ⟨I'.inv.unpinned, I'.lo, I'.hp, I'.st⟩
  refine codeAny_forLoop_any (fun n s' => ∃ i σ3' M' σ' H', n = ds.length - i ∧ i ≤ ds.length ∧ I3 (ct X ca) X M0 pins σ3' M' σ' H' s' ∧ tn i s'.heap ∧ (∀ b ∈ fp, H' b = none) ∧ TupK H2 H' ∧ forL t B G KE (ds.drop i) σ3' M') ?_ (ds.length - 0) ⟨0, σ3, M2, σ, H2, rfl, Nat.zero_le _, I2, st2, fun b hb => (f2 b hb).1, TupK.refl, w⟩
  rintro n s3 ⟨i, σ3', M3, σ', H3, en, hin, I3', st3, fr3, k3, w3⟩
  subst en
  by_cases hlt : i < ds.length
  · rw [List.drop_eq_getElem_cons hlt] at w3
    obtain ⟨g, w3⟩ := w3
    have r3 := (hr H3 M3 k3 I3'.hp g).1 i ds[i] (List.getElem?_eq_getElem hlt)
    refine wpAny_passesOwn hp (thn (T.item X rfl rfl rfl hc i pins s3 σ' H3 X.xe I3'.inv (stat fr3) st3 r3.1) fun r s4 ⟨u, hru, h4⟩ => ?_)
    subst hru
    refine wpAny_passesOwn hp (thn h4 fun _ s5 ⟨x, H5, J5, r5, y5, st5, fr5⟩ => ?_)
    obtain ⟨q1, q2, q3⟩ := r3.2 x H5 y5
    have I5 := I3'.to J5 q1 q2
    have k5 := q2.tupK I3'.hp
    have I5' : I3 (ct X ca) X M0 (pins ++ pinsAt fp s5.heap) σ3' M3 σ' H5 s5 := ⟨I5.inv.pinned (stat fr5) (T.obj _ _ st5), I5.lo, I5.hp, I5.st⟩
    refine wpAny_passesOwn hp (thn (ht _ s5 σ' H5 σ3' M3 _ x u _ I5' r5 q3 w3) fun _ s6 ⟨σ36, σ6, I6, _, q6⟩ => ?_)
    subst hB
    have k36 : TupK H2 H5 := k3.trans k5
    have body := hb _ (tk.imp fun _ _ _ h => h.2) _ s6 σ6 H5 σ36 M3 _ I6 q6
    refine wpAny_passesOwn hp (thn body fun f s7 q7 => ?_)
    have again : ∀ {σ37 : Lo} {M7 : Mp} {σ7 : L2.St} {H7 : Hp}, I3 (ct X ca) X M0 (pins ++ pinsAt fp s5.heap) σ37 M7 σ7 H7 s7 → TupK H2 H7 → forL t (fun (D : Ends) (σ : Lo) (M : Mp) => wpSs P ib (fun x σ M => fin = id ∧ X3 x σ M) D σ M) G KE (ds.drop (i + 1)) σ37 M7 →
        ∃ m, m < ds.length - i ∧ ∃ i' σ3' M' σ' H', m = ds.length - i' ∧ i' ≤ ds.length ∧ I3 (ct X ca) X M0 pins σ3' M' σ' H' s7 ∧ tn i' s7.heap ∧ (∀ b ∈ fp, H' b = none) ∧ TupK H2 H' ∧ forL t (fun (D : Ends) (σ : Lo) (M : Mp) => wpSs P ib (fun x σ M => fin = id ∧ X3 x σ M) D σ M) G KE (ds.drop i') σ3' M' := fun {σ37 M7 σ7 H7} I7 k7 w7 => by
      refine ⟨ds.length - (i + 1), by omega, i + 1, σ37, M7, σ7, H7, rfl, hlt, I3pin I7, T.keep _ _ _ st5 fun b hb o e => (I7.inv.pin (b, o) (List.mem_append_right _ (List.mem_append_right _ (mem_pinsAt hb e)))).1, fun b hb => ?_, k7, w7⟩
      obtain ⟨o, e, d⟩ := T.obj _ _ st5 b hb
      exact (I7.inv.pin (b, o) (List.mem_append_right _ (List.mem_append_right _ (mem_pinsAt hb e)))).2.1
    cases f with
    | next => obtain ⟨σ37, M7, σ7, H7, I7, k7, n7⟩ := q7; exact again I7 (k36.trans (k7 rfl)) n7
    | cont => obtain ⟨σ37, M7, σ7, H7, I7, k7, n7⟩ := q7; exact again I7 (k36.trans (k7 rfl)) n7
    | brk => obtain ⟨σ37, M7, σ7, H7, I7, k7, n7⟩ := q7; exact out (I3pin I7) (kH.trans (k36.trans (k7 rfl))) n7
    | ret v =>
      obtain ⟨d, v7, σ37, M7, σ7, H7, I7, k7, r7, rd7, n7⟩ := q7
      subst hE
      obtain ⟨H'', I'', k'', kw, _⟩ := hf.2 _ _ _ _ _ _ _ (I3pin I7) (kH.trans (k36.trans (k7 rfl)))
      exact ⟨d, v7, σ37, _, σ7, H'', I'', k'', r7, rd7.keep0 kw, n7⟩
  · have ei : i = ds.length := by omega
    subst ei
    rw [List.drop_length] at w3
    obtain ⟨g, w3⟩ := w3
    have stop := (hr H3 M3 k3 I3'.hp g).2
    refine wpAny_passesOwn hp (thn (T.done X rfl rfl rfl hc _ pins s3 σ' H3 X.xe I3'.inv (stat fr3) st3 stop) fun r s4 ⟨hr4, I4⟩ => ?_)
    subst hr4
    exact wpAny_execs_nil (out (I3'.same I4) (kH.trans k3) w3)
end
end L3
end
section
set_option autoImplicit false
set_option linter.all false
set_option maxRecDepth 100000
/-! L3: every compiled statement is sound -/
namespace L3
open PySem L2 PyProof.Rows

theorem comp_inv {n : Nat} {cc : CC} {x : Str} {px : Pos} {e : Expr} {e' : E} (hs : swapC cc x px e = true) (h : cE n cc e = some e') :
    ∃ m ex tg it ifs scope pos k es' t' c' ex', n = m + 1 ∧ e = .ListComp ex [⟨tg, it, ifs, 0⟩] scope pos ∧ blkB cc.N cc.sc scope = true ∧ cI m cc it = some (k, es') ∧ cTg { cc with sc := relC scope cc.sc, cs := false } tg = some t' ∧ cIf m { cc with sc := relC scope cc.sc, cs := false } ifs = some c' ∧
      cE m { cc with sc := relC scope cc.sc, cs := false } ex = some ex' ∧ (itOk k tg && t'.sl.all (fun i => ((ownC cc.N scope).map (·.2)).contains i)) = true ∧ e' = .comp ((ownC cc.N scope).map (·.2)) ex' t' k es' c' := by
  cases n with
  | zero => simp [cE] at h
  | succ m =>
    unfold swapC at hs
    split at hs
    · unfold cE at h
      simp only at h
      obtain ⟨hm, h⟩ := if_some h
      split at h
      · rename_i h1 h2 h3 h4
        obtain ⟨hk, h⟩ := if_some h
        cases h
        exact ⟨m, _, _, _, _, _, _, _, _, _, _, _, rfl, rfl, hm, h1, h2, h3, h4, hk, rfl⟩
      · cases h
    · cases hs
theorem compD_inv {n : Nat} {cc : CC} {x : Str} {px : Pos} {e : Expr} {e' : E} (hs : swapD cc x px e = true) (h : cE n cc e = some e') :
    ∃ m kx vx tg it ifs scope pos k es' t' c' kx' vx', n = m + 1 ∧ e = .DictComp kx vx [⟨tg, it, ifs, 0⟩] scope pos ∧ blkB cc.N cc.sc scope = true ∧ cI m cc it = some (k, es') ∧ cTg { cc with sc := relC scope cc.sc, cs := false } tg = some t' ∧ cIf m { cc with sc := relC scope cc.sc, cs := false } ifs = some c' ∧
      cE m { cc with sc := relC scope cc.sc, cs := false } kx = some kx' ∧ cE m { cc with sc := relC scope cc.sc, cs := false } vx = some vx' ∧ (itOk k tg && t'.sl.all (fun i => ((ownC cc.N scope).map (·.2)).contains i)) = true ∧ e' = .dcomp ((ownC cc.N scope).map (·.2)) kx' vx' t' k es' c' := by
  cases n with
  | zero => simp [cE] at h
  | succ m =>
    unfold swapD at hs
    split at hs
    · unfold cE at h
      simp only at h
      obtain ⟨hm, h⟩ := if_some h
      split at h
      · rename_i h1 h2 h3 h4 h5
        obtain ⟨hk, h⟩ := if_some h
        cases h
        exact ⟨m, _, _, _, _, _, _, _, _, _, _, _, _, _, rfl, rfl, hm, h1, h2, h3, h4, h5, hk, rfl⟩
      · cases h
    · cases hs
def AllS (n : Nat) : Prop := ∀ (ca : Nat → Addr) (X : Cx) (M0 : Mp) (P : Pr) (cc : CC), Ok3 ca X P cc → PassesOwn (model X.prog X.w) X.A X.env X.xe → X.stack = X.env :: X.outer → X.env.frame = some X.env.locals →
  (∀ (e : Stmt) (i : S), cS n cc e = some i → SndS cc.nt ca X M0 P e i) ∧ (∀ (es : List Stmt) (i : Ss), cSs n cc es = some i → SndSs cc.nt ca X M0 P es i)
theorem allSt : ∀ n, AllS n
  | 0 => fun ca X M0 P cc ok hp hst hfr => ⟨fun e i h => by simp [cS] at h, fun e i h => by simp [cSs] at h⟩
  | n + 1 => fun ca X M0 P cc ok hp hst hfr => by
    obtain ⟨hS, hSs⟩ := allSt n ca X M0 P cc ok hp hst hfr
    have hE : ∀ (e : Expr) (i : E), cE n cc e = some i → SndEx ca X M0 P e i := fun e i h X3 tk => (allE n ca X M0 P cc ok).1 X3 tk e i h
    have hD : ∀ st : Stmt, SndS cc.nt ca X M0 P st ((cS n cc st).getD .bad) := fun st => by
      cases e2 : cS n cc st with
      | none => exact st_bad
      | some s' => exact hS _ _ e2
    have hEs : ∀ (e : List Expr) (i : Es), cEs n cc e = some i → SndEsx ca X M0 P e i := fun e i h X3 tk => (allE n ca X M0 P cc ok).2.1 X3 tk e i h
    have okN : Ok3 ca X P { cc with nt := true } := ⟨ok.N, ok.sc, ok.nd, ok.g, ok.hu, ok.hg, ok.hc, ok.sy, ok.cell⟩
    have hSsN : ∀ (es : List Stmt) (i : Ss), cSs n { cc with nt := true } es = some i → SndSs true ca X M0 P es i := (allSt n ca X M0 P _ okN hp hst hfr).2
    have hT : ∀ (e : Expr) (i : T), cT n cc e = some i → SndTx ca X M0 P e i := fun e i h X3 tk => (allE n ca X M0 P cc ok).2.2.1 X3 tk e i h
    refine ⟨fun e i h => ?_, fun es i h => ?_⟩
    · unfold cS at h
      split at h
      · obtain ⟨hm, h⟩ := if_some h
        split at h
        · rename_i h1
          cases h; exact st_expr hm (hE _ _ h1)
        · cases h
      · cases h; exact st_retN
      · obtain ⟨hm, h⟩ := if_some h
        split at h
        · rename_i h1 h2
          cases h; exact st_del ok hm (hE _ _ h1) (hE _ _ h2)
        · cases h
      · split at h
        · rename_i h1
          cases h; exact st_ret (hE _ _ h1)
        · cases h
      · split at h
        · rename_i hm
          split at h
          · rename_i h1 h2
            cases h; exact st_set ok h1 hm (hE _ _ h2)
          · cases h
        · obtain ⟨hw, h⟩ := if_some h
          split at h
          · rename_i h1 h2
            cases h
            rcases Bool.or_eq_true_iff.mp hw with hw | hw
            · obtain ⟨m, ex, tg, it, ifs, scope, pos, k, es', t', c', ex', rfl, rfl, hm, g1, g2, g3, g4, hk, rfl⟩ := comp_inv hw h2
              rw [ok.N, ok.sc] at hm
              obtain ⟨i1, i2⟩ := (allE m ca X M0 P cc ok).2.2.2.1 _ _ _ _ g1 (Bool.and_eq_true_iff.mp hk).1
              rw [ok.N]
              rw [Bool.and_eq_true] at hk
              rw [ok.N] at hk
              have hk2 := List.all_eq_true.mp hk.2
              exact st_setLc (ownC X.N _) ok h1 hw (blk_ok hm) (fun i hi => by simpa using hk2 i hi) i1 i2 (fun s H C cl fp => cTg_ok (ok_blk ok s H C cl fp) g2) (fun s H C cl fp => (allE m ca _ MAll P _ (ok_blk ok s H C cl fp)).2.2.2.2.1 _ _ g3) (fun s H C cl fp => (allE m ca _ MAll P _ (ok_blk ok s H C cl fp)).1 _ tk_false _ _ g4)
            · obtain ⟨m, kx, vx, tg, it, ifs, scope, pos, k, es', t', c', kx', vx', rfl, rfl, hm, g1, g2, g3, g4, g5, hk, rfl⟩ := compD_inv hw h2
              rw [ok.N, ok.sc] at hm
              obtain ⟨i1, i2⟩ := (allE m ca X M0 P cc ok).2.2.2.1 _ _ _ _ g1 (Bool.and_eq_true_iff.mp hk).1
              rw [ok.N]
              rw [Bool.and_eq_true] at hk
              rw [ok.N] at hk
              have hk2 := List.all_eq_true.mp hk.2
              exact st_setDc (ownC X.N _) ok h1 hw (blk_ok hm) (fun i hi => by simpa using hk2 i hi) i1 i2 (fun s H C cl fp => cTg_ok (ok_blk ok s H C cl fp) g2) (fun s H C cl fp => (allE m ca _ MAll P _ (ok_blk ok s H C cl fp)).2.2.2.2.1 _ _ g3) (fun s H C cl fp => (allE m ca _ MAll P _ (ok_blk ok s H C cl fp)).1 _ tk_false _ _ g4) (fun s H C cl fp => (allE m ca _ MAll P _ (ok_blk ok s H C cl fp)).1 _ tk_false _ _ g5)
          · cases h
      · obtain ⟨hm, h⟩ := if_some h
        split at h
        · rename_i h1 h2
          cases h; exact st_setT (cTg_ok ok h1) hm (hE _ _ h2)
        · cases h
      · obtain ⟨hm, h⟩ := if_some h
        split at h
        · rename_i h1 h2
          cases h; exact st_setFld ok hm (hE _ _ h1) (hE _ _ h2)
        · cases h
      · split at h
        · rename_i h1 h2 h3
          cases h; exact st_augFld ok h2 (hE _ _ h1) (hE _ _ h3)
        · cases h
      · obtain ⟨hm, h⟩ := if_some h
        rw [Bool.and_eq_true] at hm
        split at h
        · rename_i h1 h2 h3
          cases h; exact st_setIx ok hm.1 hm.2 (hE _ _ h1) (hE _ _ h2) (hE _ _ h3)
        · cases h
      · split at h
        · rename_i h1 h2 h3
          cases h; exact st_aug ok h1 h2 (hE _ _ h3)
        · cases h
      · split at h
        · rename_i h1 h2 h3
          cases h; exact st_if (hT _ _ h1) (hSs _ _ h2) (hSs _ _ h3)
        · cases h
      · split at h
        · rename_i h1 h2
          cases h; exact st_wh hp (hT _ _ h1) (hSs _ _ h2)
        · cases h
      · -- raise
        split at h
        · rename_i h1 h2
          cases h; exact st_raise ok h1 (cEs_plain h2) (fun e => by subst e; exact cEs_nil h2) (hEs _ _ h2)
        · cases h
      · -- try
        obtain ⟨hm, h9⟩ := if_some h
        clear h
        simp only [Bool.and_eq_true, Bool.not_eq_true', decide_eq_true_eq] at hm
        obtain ⟨⟨⟨m1, m2⟩, m3⟩, m4⟩ := hm
        split at h9
        · rename_i h1 h2 h3 h4
          cases h9
          rw [m1]
          refine st_try ok hst hfr h2 h3 m2 (fun pn xe hp' => ?_) (fun a oe cls d c' fs pn hz hf => (allH n ca X P cc ok _ _ h3 m3 m4 a oe pn cls d c' fs hz hf).2.2.2 _ _ h4)
          have okT : Ok3 ca (X.tr pn xe) P cc := ⟨ok.N, ok.sc, ok.nd, ⟨ok.g.fn, ok.g.blt, ok.g.cls, ok.g.mth, ok.g.fl, ok.g.con, ok.g.exc, ok.g.exf, ok.g.isx, ok.g.tab⟩, ok.hu, ok.hg, ok.hc, ok.sy, ok.cell⟩
          have z := (allSt n ca (X.tr pn xe) M0 P cc okT hp' hst hfr).2 _ _ h1
          rw [m1] at z
          exact z
        · cases h9
      · split at h
        · rename_i h1 h2 h3
          obtain ⟨hk, h⟩ := if_some h
          cases h
          obtain ⟨i1, i2⟩ := (allE n ca X M0 P cc ok).2.2.2.1 _ _ _ _ h2 hk
          exact st_for hp ok.hc i2 i1 (cTg_ok ok h1) (hSsN _ _ h3)
        · cases h
      · cases h; exact st_pass
      · cases h; exact st_brk
      · cases h; exact st_cnt
      · cases h
    · unfold cSs at h
      split at h
      · rename_i e; cases e
      · cases h; exact sts_nil
      · rename_i e1
        cases e1
        split at h
        · rename_i h2
          cases h
          exact sts_cons (hD _) (hSs _ _ h2)
        · cases h
end L3
end
section
set_option autoImplicit false
set_option linter.all false
set_option maxRecDepth 100000
/-! L3: a def by its body -/
namespace L3
open PySem L2 PyProof.Rows

/-- what the module's names stand for, up to the level k -/
structure GM (C : Ct) (mg : Str → Option Value) (base : Heap) (k : Nat) (P : Pr) (gl : List (Str × GR)) : Prop where
  fn : ∀ x i, gl.lookup x = some (.fn i) → ∃ j f fd ps, j ≤ k ∧ mg x = some (.ref f) ∧ PySem.W.keepIn C.K (.ref f) = true ∧ Binds C.K fd ps [] ∧ FnG C mg base j f fd ps (P.sp i)
  blt : ∀ x, gl.lookup x = some .blt → mg x = none
  cls : ∀ x c i, gl.lookup x = some (.cls c i) → ∃ j f fd ps, j + 1 ≤ k ∧ mg x = some (.ref (C.ca c)) ∧ Mk C.K (C.ca c) f ∧ Binds C.K fd ps [] ∧ FnG C mg base j f fd ps (P.sp i)
  mth : ∀ m c i, gl.lookup (dotted m) = some (.mth c i) → ∃ j f fd ps, j ≤ k ∧ Cls C.K (C.ca c) ∧ Meth C.K (C.ca c) m f ∧ Binds C.K fd ps [] ∧ FnG C mg base j f fd ps (P.sp i)
  fl : ∀ c f, P.fl c f = true → Cls C.K (C.ca c) ∧ NoAttr C.K (C.ca c) f
  con : ∀ x d, gl.lookup x = some (.con d) → ∃ u v, mg x = some u ∧ RelV v u ∧ (∀ H, RD C H d v) ∧ ∀ ds, d = .kt ds → ∃ a o, v = .ref a ∧ C.K.lookup a = some o ∧ o.cls = .type "tuple" ∧ o.dict = none
  exc : ∀ x c, gl.lookup x = some (.exc c) → mg x = some (.ref (C.ca c)) ∧ ExK C.P C.K (C.ca c) (P.exf c) ∧ 4 ≤ k ∧ ∀ c' b, P.sub c' c = some b → PySem.W.exmOne C.K (.ref (C.ca c')) (.ref (C.ca c)) = some b
  exf : ∀ c f, (P.exf c).contains f = true → XfK C.K (C.ca c) f
  isx : ∀ c q b, P.isx c q = some b → IsK C.ca C.K (C.ca c) q b
  tab : ∀ x t, gl.lookup x = some (.tab t) → ∃ p, mg x = some (.ref p) ∧ ∀ z f, P.tab t z = some f → ∃ a j fd ps, j ≤ k ∧ KDct C.K C.w p z (.ref a) ∧ PySem.W.keepIn C.K (.ref a) = true ∧ Binds C.K fd ps [] ∧ FnG C mg base j a fd ps (P.sp f)
theorem GM.ok {ca : Nat → Addr} {X : Cx} {k : Nat} {P : Pr} {gl : List (Str × GR)} (g : GM (ct X ca) X.mg X.base k P gl) (r : Room k X.A) : GOk ca X P gl where
  fn := fun x i h => let ⟨j, f, fd, ps, hj, h1, h2, h3, h4⟩ := g.fn x i h; ⟨j, f, fd, ps, h1, h2, h3, r.mono hj, h4⟩
  cls := fun x c i h => let ⟨j, f, fd, ps, hj, h1, h2, h3, h4⟩ := g.cls x c i h; ⟨j, f, fd, ps, h1, h2, h3, r.mono hj, h4⟩
  mth := fun m c i h => let ⟨j, f, fd, ps, hj, h1, h2, h3, h4⟩ := g.mth m c i h; ⟨j, f, fd, ps, h1, h2, h3, r.mono hj, h4⟩
  fl := g.fl
  blt := g.blt
  con := g.con
  exc := fun x c h => let ⟨h1, h2, h3, h4⟩ := g.exc x c h; ⟨h1, h2, r.mono h3, h4⟩
  exf := g.exf
  isx := g.isx
  tab := fun x t h => let ⟨p, h1, h2⟩ := g.tab x t h; ⟨p, h1, fun z f hz => let ⟨a, j, fd, ps, hj, h3, h4, h5, h6⟩ := h2 z f hz; ⟨a, j, fd, ps, h3, h4, h5, r.mono hj, h6⟩⟩
section
variable {Pg : Program} {w : World} {K : PySem.W.Frag} {ca : Nat → Addr} {mg : Str → Option Value} {base : Heap}
theorem rl_start {C : Ct} {H : Hp} {N : List Str} {ds : List D} {vs : List V} (rd : RDs C H ds vs) : RL C H (startL N.length ds) (L2.start N vs) := by
  have hl := rd.length
  refine ⟨by simp [startL, L2.start, hl], fun i d e => ?_⟩
  unfold startL at e
  by_cases h : i < ds.length
  · rw [List.getElem?_append_left (by simpa using h), List.getElem?_map] at e
    cases g : ds[i]? with
    | none => rw [g] at e; cases e
    | some d' =>
      rw [g] at e
      have e' : d' = d := by simpa using e
      subst e'
      obtain ⟨v, e1, r1⟩ := rd.get g
      refine ⟨v, ?_, r1⟩
      unfold L2.start
      rw [List.getElem?_append_left (by rw [List.length_map, ← hl]; exact h), List.getElem?_map, e1]
      rfl
  · rw [List.getElem?_append_right (by simp; omega)] at e
    rw [List.getElem?_replicate] at e
    split at e <;> cases e
theorem fng_of {f : Addr} {fd : FuncData} {x qual : Str} {st : Stmt} {N ps : List Str} {k n : Nat} {sp : Spec} {P : Pr} {gl : List (Str × GR)} {ir : Ss} (F : C8.Fun K x qual st f fd) (S : FnScope N ps (C8.fnScope st))
    (hir : cSs n ⟨N, C8.fnScope st, gl, true, false⟩ (C8.fnBody st) = some ir) (sy : SysD K) (len : ∀ ds M Q X, sp ds M Q X → ds.length = ps.length) (hk : Keeps P sp N.length ir) (g : GM ⟨Pg, w, K, ca⟩ mg base k P gl) : FnG ⟨Pg, w, K, ca⟩ mg base (k + 1) f fd ps sp := by
  obtain ⟨oc, od, dV, kV, doc, pm, an, cdv, ct', osl, rfl, lk, hcd⟩ := F.ex
  refine ⟨len, fun A outer s H args us vs ds M Q X3 hr hg e0 hb r rd rm hsp => ?_⟩
  have hl : vs.length = ps.length := by rw [← rd.length]; exact len _ _ _ _ hsp
  have KX : K.In s.heap := e0.mod.kin.keeps fun b o e => (e0.bs b o e).1
  have lim : s.heap.NoLimit := e0.mod.nolimit.keeps fun b o e => (e0.bs b o e).1
  have hkind : ∀ y ∈ ps.zip us, (C8.fnScope st).names.lookup y.1 = some .local ∨ ((C8.fnScope st).names.lookup y.1 = some .cell ∧ ((cellsFrom (s.heap.objs.size + 1) (C8.fnScope st).names []).lookup y.1).isSome = true) := fun ⟨m, v⟩ hy => by
    rcases S.par m (List.of_mem_zip hy).1 with q | q
    · exact .inl q
    · exact .inr ⟨q, PySem.W.cellsFrom_some _ _ _ (.inl q)⟩
  refine codeAny_call_function hr.depth (KX _ _ lk) rfl S.co S.gen rfl (PySem.W.codeRec_of KX hcd) (hb _ _ _ _ ?_)
  refine wpAny_newFunctionEnv_cells S.kind hkind fun env he s1 x1 => ?_
  subst he
  refine ⟨lim.keeps x1.toInCall.keep, codeAny_func ?_⟩
  have I : Inv (cxOf (L2N.CX Pg w) Pg w K mg base N qual (C8.fnScope st) f cdv A outer s H (XK3 ⟨Pg, w, K, ca⟩ H M X3)) [] (L2.start N vs) H s1 := inv_start S hr.hd e0 hl r x1
  have rX : Room k (cxOf (L2N.CX Pg w) Pg w K mg base N qual (C8.fnScope st) f cdv A outer s H (XK3 ⟨Pg, w, K, ca⟩ H M X3)).A := hr.deeper _
  have ok : Ok3 ca (cxOf (L2N.CX Pg w) Pg w K mg base N qual (C8.fnScope st) f cdv A outer s H (XK3 ⟨Pg, w, K, ca⟩ H M X3)) P ⟨N, C8.fnScope st, gl, true, false⟩ :=
    ⟨rfl, rfl, S.nd, GM.ok (X := (cxOf (L2N.CX Pg w) Pg w K mg base N qual (C8.fnScope st) f cdv A outer s H (XK3 ⟨Pg, w, K, ca⟩ H M X3))) g rX, by have := rX.un; omega, hg, rfl, sy, fun _ _ _ => rfl⟩
  have tk : TK ca (cxOf (L2N.CX Pg w) Pg w K mg base N qual (C8.fnScope st) f cdv A outer s H (XK3 ⟨Pg, w, K, ca⟩ H M X3)) M (fun x _ M => X3 x M) :=
    L2N.Takes.imp (L2N.takes_of rfl rfl rfl rfl) fun cls d σ H' ⟨σ3, M', c, ds, _, h2, h3, h4, h5⟩ => ⟨M', c, ds, h2, h3, h4, h5⟩
  have snd := (allSt n ca _ M P _ ok (passes_of rfl) rfl rfl).2 _ _ hir (fun x _ M => X3 x M) tk [] s1 (L2.start N vs) H (startL N.length ds) M ⟨fun _ M => Q .non M, Q, fun _ _ => False, fun _ _ => False⟩ ⟨I, rl_start rd, rm, Stp.refl⟩ (hk ds M Q X3 hsp)
  refine wpAny_mono snd (fun fl s' hs => ?_) fun e s' hs => hs
  have fin : ∀ {σ3 : Lo} {σ' : L2.St} {H' : Hp} {M' : Mp} {v : V} {u : Value} {d : D}, I3 ⟨Pg, w, K, ca⟩ (cxOf (L2N.CX Pg w) Pg w K mg base N qual (C8.fnScope st) f cdv A outer s H (XK3 ⟨Pg, w, K, ca⟩ H M X3)) M [] σ3 M' σ' H' s' → RelV v u → RD ⟨Pg, w, K, ca⟩ H' d v → Q d M' → CE outer Pg w H s (QV ⟨Pg, w, K, ca⟩ H M Q) u s' :=
    fun {σ3 σ' H' M' v u d} J rv rd q => ⟨v, H', J.inv.os, J.inv.bare, J.inv.base, J.inv.hok, rv, d, M', J.hp, J.st, rd, q⟩
  cases fl with
  | ret u =>
    obtain ⟨d, v, σ3, M', σ', H', J, _, rv, rd', q⟩ := hs
    exact fin J rv rd' q
  | next =>
    obtain ⟨σ3, M', σ', H', J, _, q⟩ := hs
    exact fin (v := V.non) (u := Value.none) (d := .non) J rfl rfl q
  | brk =>
    obtain ⟨_, _, _, _, _, _, q⟩ := hs
    exact False.elim q
  | cont =>
    obtain ⟨_, _, _, _, _, _, q⟩ := hs
    exact False.elim q
end
end L3
end
section
set_option autoImplicit false
set_option linter.all false
set_option maxRecDepth 100000
/-! L3: the law's end -/
namespace L3
open PySem L2 PyProof.Rows PySem.Spec

theorem rds_ints {C : Ct} {H : Hp} : ∀ (ns : List Int), RDs C H (ns.map D.int) (ns.map V.int)
  | [] => rfl
  | n :: ns => ⟨.int n, ns.map V.int, rfl, rfl, rds_ints ns⟩
/-- the script's object alone -/
def Sole (a : Addr) (H : Hp) : Prop := ∀ b u, H b = some u → b = a ∧ ∃ ob xs, u = .frz ob (.lst xs)
section
variable {Pg : Program} {w : World} {K : PySem.W.Frag} {ca : Nat → Addr} {mg mb : Str → Option Value} {k : Nat} {fa a : Addr} {fd : FuncData} {x : Str} {sp : Spec} {s₁ : Shared} {vs : List Value} {ns : List Int}
theorem end_core {H : Hp} (hin : K.In s₁.heap) (gns : s₁.heap.Ns mainGlobals mg) (bns : s₁.heap.Ns builtinsNs mb) (bot : ∀ x : Str, x ≠ "__name__" → mb x = bootBuiltins x) (nl : s₁.heap.NoLimit) (ng : s₁.gens = #[])
    (ob : s₁.heap.get? a = some { cls := .type "list", data := .seq vs.toArray }) (room : Room k callerA)
    (F : ∀ base : Heap, K.In base → base.Ns mainGlobals mg → FnG ⟨Pg, w, K, ca⟩ mg base k fa fd [x] sp) (bnd : ∀ (s : Shared) (u : Value), BindsTo s fd ⟨[u], []⟩ [(x, u)])
    (law : ∀ Q X, (∀ M, Q (.bl true) M) → sp [.kl (ns.map .int)] (fun _ => none) Q X)
    (so : Sole a H) (sq : SqF K H a (ns.map V.int)) (hok : HOk Pg w H s₁.heap) (hK : H a ≠ none → K.lookup a = none) :
    codeAny (model Pg w) callerA (.call (.ref fa) ⟨[.ref a], []⟩) (fun r s' => r = .ok (.ret (.bool true)) ∧ OldK s₁.heap s'.heap ∧ s'.os = s₁.os ∧ AllBare s'.gens) s₁ := by
  have only : ∀ {b : Addr}, b ≠ a → H b = none := fun {b} hb => by
    cases q : H b with
    | none => rfl
    | some u => exact absurd (so b u q).1 hb
  have dict0 : ∀ {b : Addr} {o : Obj} {es : Array DictEntry} {ep : Nat}, s₁.heap.get? b = some o → o.data = .dict es ep → H b = none := fun {b o es ep} e dd => by
    by_cases hb : b = a
    · rw [hb, ob] at e
      cases e
      exact nomatch dd
    · exact only hb
  have nsT : ∀ {b : Addr} {m : Str → Option Value}, s₁.heap.Ns b m → (hidT s₁.heap H).Ns b m := fun {b m} z => by
    obtain ⟨o, es, ep, e, dd, rest⟩ := z
    exact ⟨o, es, ep, hidT_get e (dict0 e dd), dd, rest⟩
  have kT : K.In (hidT s₁.heap H) := fun b o e => by
    refine hidT_get (hin b o e) ?_
    by_cases hb : b = a
    · subst hb
      cases q : H b with
      | none => rfl
      | some u =>
        have z := hK (by rw [q]; exact nofun)
        rw [e] at z
        cases z
    · exact only hb
  have md : Mod K mg (hidT s₁.heap H) := ⟨kT, nsT gns, ⟨mb, nsT bns, bot⟩, by obtain ⟨mc, h1, h2⟩ := nl; exact ⟨mc, nsT h1, h2⟩⟩
  have env : Env0 Pg w K mg (hidT s₁.heap H) callerA [] s₁ H := ⟨rfl, md, fun b o => of_hidT, Nat.le_of_eq (hidT_size _ _), trivial, (fun b hb => nomatch hb), hok, .of_eq ng⟩
  have rdl : RDs ⟨Pg, w, K, ca⟩ H [.kl (ns.map .int)] [.ref a] := ⟨.ref a, [], rfl, ⟨a, ns.map V.int, rfl, sq, rds_ints ns⟩, rfl⟩
  have rm0 : RM ⟨Pg, w, K, ca⟩ H (fun _ => none) := fun _ _ e => nomatch e
  refine codeAny_mono ((F _ kT (nsT gns)).run callerA [] s₁ H ⟨[.ref a], []⟩ [.ref a] [.ref a] [.kl (ns.map .int)] (fun _ => none) (fun d _ => d = .bl true) (fun _ _ => False) room rfl env (bnd s₁ (.ref a)) (.cons rfl .nil) rdl rm0 (law _ _ fun _ => rfl)) fun r s' h => ?_
  match r, h with
  | .error e, h =>
    obtain ⟨_, _, _, _, _, _, _, _, _, _, _, _, _, _, _, _, _, _, q⟩ := h
    exact False.elim q
  | .ok (.ret u), h =>
    obtain ⟨v, H', os, bare, un, hok', rv, d, M', _, _, rd, q⟩ := h
    subst q
    have ev : v = .bl true := rd
    subst ev
    obtain rfl : u = Value.bool true := rv
    refine ⟨rfl, OldK.of_keep fun b o e => ?_, os, bare⟩
    cases q : H b with
    | none => exact un.keep b o e q (fun z => nomatch z) (by simp)
    | some u =>
      obtain ⟨_, ob2, xs, e2⟩ := so b u q
      subst e2
      have e3 := (hok b _ q).1
      rw [e] at e3
      cases e3
      exact (hok' b _ (un.frzs b _ _ q)).1
theorem law_call3 (hin : K.In s₁.heap) (gns : s₁.heap.Ns mainGlobals mg) (bns : s₁.heap.Ns builtinsNs mb) (bot : ∀ x : Str, x ≠ "__name__" → mb x = bootBuiltins x) (nl : s₁.heap.NoLimit) (ng : s₁.gens = #[])
    (ob : s₁.heap.get? a = some { cls := .type "list", data := .seq vs.toArray }) (hi : IntsAre vs ns) (hl : ns.length ≤ sizeLine) (room : Room k callerA)
    (F : ∀ base : Heap, K.In base → base.Ns mainGlobals mg → FnG ⟨Pg, w, K, ca⟩ mg base k fa fd [x] sp) (bnd : ∀ (s : Shared) (u : Value), BindsTo s fd ⟨[u], []⟩ [(x, u)])
    (law : ∀ Q X, (∀ M, Q (.bl true) M) → sp [.kl (ns.map .int)] (fun _ => none) Q X) :
    codeAny (model Pg w) callerA (.call (.ref fa) ⟨[.ref a], []⟩) (fun r s' => r = .ok (.ret (.bool true)) ∧ OldK s₁.heap s'.heap ∧ s'.os = s₁.os ∧ AllBare s'.gens) s₁ := by
  have rv := vals_ints hi
  have len := hi.length
  cases e : K.lookup a with
  | some o =>
    have e1 := hin a o e
    rw [ob] at e1
    cases e1
    exact end_core (H := fun _ => none) hin gns bns bot nl ng ob room F bnd law (fun _ _ z => nomatch z) (.inr ⟨_, vs.toArray, _, e, rfl, rfl, rfl, by rw [List.size_toArray, len]; exact hl, by simpa using rv⟩) (fun _ _ z => nomatch z) fun z => absurd rfl z
  | none =>
    refine end_core (H := fun b => if b = a then some (.frz { cls := .type "list", data := .seq vs.toArray } (.lst (ns.map V.int))) else none) hin gns bns bot nl ng ob room F bnd law (fun b u z => ?_) (.inl ⟨_, if_pos rfl⟩) (fun b u z => ?_) fun _ => e
    · by_cases hb : b = a
      · simp only [if_pos hb] at z
        cases z
        exact ⟨hb, _, _, rfl⟩
      · simp only [if_neg hb] at z
        cases z
    · by_cases hb : b = a
      · simp only [if_pos hb] at z
        cases z
        subst hb
        exact ⟨ob, by rw [List.length_map]; exact hl, vs, _, rv, ob⟩
      · simp only [if_neg hb] at z
        cases z
end
/-- what the head leaves -/
theorem walk3 {l : PySem.W.OpenLaw} {n k : Nat} {q : Program} {loose : List Str} {XP : (Str → Option Value) → Heap → Prop} {YP : World → Heap → Prop} {d : DefRec} {x : Str}
    (hn : l.most = some n) (hn2 : n ≤ sizeLine) (hdf : d.params.defaults = []) (room : Room k callerA)
    (F : ∀ (w : World) (mg : Str → Option Value) (fa : Addr) (h : Heap), YP w h → h.Ns mainGlobals mg → mg d.name = some (.ref fa) →
      ∃ (K : PySem.W.Frag) (fd : FuncData) (ca : Nat → Addr) (sp : Spec), K.In h ∧ (∀ (s : Shared) (u : Value), BindsTo s fd ⟨[u], []⟩ [(x, u)]) ∧ (∀ base : Heap, K.In base → base.Ns mainGlobals mg → FnG ⟨l.prog, w, K, ca⟩ mg base k fa fd [x] sp) ∧
        ∀ ns : List Int, ns.length ≤ n → ∀ Q X, (∀ M, Q (.bl true) M) → sp [.kl (ns.map .int)] (fun _ => none) Q X) :
    PySem.W.WalkO q loose XP YP l.row.toRowW d [] (fun f vs => PySem.call f vs) := by
  refine Att.attach_call hn hdf fun w s₀ s₁ mg mb fa o pm cd doc a vs ns G Y ho hd hcd hmg hobj hints hlen hg => ?_
  obtain ⟨K, fd, ca, sp, hin, h1, h2, h3⟩ := F w mg fa _ Y G.T.g hmg
  exact law_call3 hin G.T.g G.T.b G.T.builtins G.T.nolimit hg hobj hints (Nat.le_trans hlen hn2) room h2 h1 (h3 ns hlen)
end L3
end
section
set_option autoImplicit false
set_option linter.all false
set_option maxRecDepth 100000
/-! L3: the head's facts: defs, free names, constants -/
namespace L3
open PySem L2 PyProof.Rows PySem.Spec

/-! addresses, level by level, each once -/
inductive NT where
  | nil
  | node (b : Bool) (l r : NT)
def NT.has : NT → Nat → Bool
  | .nil, _ => false
  | .node b l r, i => match Nat.beq i 0 with
    | true => b
    | false => match Nat.beq (i % 2) 1 with
      | true => l.has (i / 2)
      | false => r.has (i / 2 - 1)
def NT.add : Nat → NT → Nat → NT
  | 0, t, _ => t
  | f + 1, .nil, i => match Nat.beq i 0 with
    | true => .node true .nil .nil
    | false => match Nat.beq (i % 2) 1 with
      | true => .node false (NT.add f .nil (i / 2)) .nil
      | false => .node false .nil (NT.add f .nil (i / 2 - 1))
  | f + 1, .node b l r, i => match Nat.beq i 0 with
    | true => .node true l r
    | false => match Nat.beq (i % 2) 1 with
      | true => .node b (NT.add f l (i / 2)) r
      | false => .node b l (NT.add f r (i / 2 - 1))
def lev : List Addr → NT → List Addr → (NT → List Addr → List Addr) → List Addr
  | [], t, acc, k => k t acc
  | a :: r, t, acc, k => match t.has a with
    | true => lev r t acc k
    | false => lev r (t.add 40 a) (a :: acc) k
def asF (g : Addr → Option Obj) : Nat → List Addr → NT → List Addr
  | 0, fr, _ => fr
  | n + 1, fr, t => lev (fr.flatMap fun a => match g a with
    | some o => He.refsD o
    | none => []) t [] fun t' new => fr ++ asF g n new.reverse t'
def asG (g : Addr → Option Obj) (n : Nat) : List Addr := asF g n [mainGlobals] (NT.nil.add 40 mainGlobals)
/-- tables of defs: a name, keys and defs' names -/
abbrev TbR : Type := Str × List (Str × Str)
def tabW (K : PySem.W.Frag) (t : TbR) : Option (List (Option (Str × Int))) := He.dicW K (He.ga K t.1)
def tabX (K : PySem.W.Frag) (t : TbR) : Bool := (He.Fa.glo t.1).ok K && He.valsB K (He.ga K t.1) (t.2.map fun q => (q.1, He.Dv.glo q.2))
abbrev Al3 : Type := (He.AlD × Bool) × List (Option (List (Option (Str × Int))))
def obs3 (n : Nat) (fa : List He.Fa) (fn : List He.DefD) (tb : List TbR) (ex : PySem.W.Frag → Bool) (g : Addr → Option Obj) : Al3 :=
  ((He.obsD fa fn (He.frG g (sysModules :: cStatics :: asG g n)), ex (He.frG g (sysModules :: cStatics :: asG g n))), tb.map (tabW (He.frG g (sysModules :: cStatics :: asG g n))))
structure Says3 (fa : List He.Fa) (fn : List He.DefD) (tb : List TbR) (ex : PySem.W.Frag → Bool) (w : World) (K : PySem.W.Frag) : Prop where
  d : He.SaysD fa fn K
  x : ex K = true
  t : tb.map (tabW K) = tb.map fun t => some (He.keysIn w.params (t.2.map (·.1)))
def hook3 (n : Nat) (fa : List He.Fa) (fn : List He.DefD) (tb : List TbR) (ex : PySem.W.Frag → Bool) : PySem.W.Hook where
  α := Al3
  obs := fun s => obs3 n fa fn tb ex s.heap.get?
  val := fun w => ((He.valD fn, true), tb.map fun t => some (He.keysIn w.params (t.2.map (·.1))))
  says := fun w h => ∃ K : PySem.W.Frag, K.In h ∧ Says3 fa fn tb ex w K
  of := fun _ _ e => ⟨_, He.frG_in, (Prod.mk.inj (Prod.mk.inj e).1).1, (Prod.mk.inj (Prod.mk.inj e).1).2, (Prod.mk.inj e).2⟩
  keeps := fun _ _ _ ⟨K, hK, c⟩ k => ⟨K, PySem.W.Frag.In.keeps hK k, c⟩
theorem obs3_eq {n : Nat} {fa : List He.Fa} {fn : List He.DefD} {tb : List TbR} {ex : PySem.W.Frag → Bool} {g : Addr → Option Obj} {s : Shared} (h : ∀ a, g a = s.heap.get? a) : obs3 n fa fn tb ex g = (hook3 n fa fn tb ex).obs s := by
  have e : g = s.heap.get? := funext h
  subst e
  rfl
theorem Says3.tab {fa : List He.Fa} {fn : List He.DefD} {tb : List TbR} {ex : PySem.W.Frag → Bool} {w : World} {K : PySem.W.Frag} (c : Says3 fa fn tb ex w K) {t : TbR} (h : t ∈ tb) : ∃ es n, KDict K w (He.ga K t.1) es n := by
  obtain ⟨i, hi⟩ := List.getElem?_of_mem h
  have e2 : (tb.map (tabW K))[i]? = (tb.map fun t => some (He.keysIn w.params (t.2.map (·.1))))[i]? := by rw [c.t]
  rw [List.getElem?_map, List.getElem?_map, hi] at e2
  exact He.dicW_ok (Option.some.inj e2)
/-- a tuple of plain values by a module's name -/
def DvD : He.Dv → Option D
  | .non => some .non
  | .bl b => some (.bl b)
  | .int i => some (.int i)
  | .str x => some (.str x)
  | _ => none
def conT (K : PySem.W.Frag) (x : Str) (vs : List He.Dv) : Bool := He.tupB K x vs && (He.Fa.glo x).ok K
theorem dvs_rd {C : Ct} {H : Hp} : ∀ {vs : List He.Dv} {ds : List D}, vs.map DvD = ds.map some → RDs C H ds (vs.map (He.Dv.v C.K))
  | [], [], _ => rfl
  | [], _ :: _, h => by cases h
  | _ :: _, [], h => by cases h
  | v :: vs, d :: ds, h => by
    have h' : DvD v :: vs.map DvD = some d :: ds.map some := h
    injection h' with h1 h2
    refine ⟨v.v C.K, vs.map (He.Dv.v C.K), rfl, ?_, dvs_rd h2⟩
    cases v <;> first | (cases h1; rfl) | cases h1
def tupN (K : PySem.W.Frag) (x : Str) : Bool := match K.lookup (He.ga K x) with
  | some ⟨.type c, none, _, _⟩ => decide (c = "tuple")
  | _ => false
theorem tupN_ok {K : PySem.W.Frag} {x : Str} (h : tupN K x = true) : ∃ o, K.lookup (He.ga K x) = some o ∧ o.cls = .type "tuple" ∧ o.dict = none := by
  unfold tupN at h
  cases q : K.lookup (He.ga K x) with
  | none => rw [q] at h; cases h
  | some o =>
    obtain ⟨oc, od, dt, sl⟩ := o
    rw [q] at h
    cases oc with
    | type c => cases od with
      | none =>
        have e : c = "tuple" := of_decide_eq_true h
        exact ⟨_, rfl, by rw [e], rfl⟩
      | some _ => cases h
    | _ => cases od <;> cases h
def sysB (K : PySem.W.Frag) : Bool := match K.lookup sysModules with
  | some ⟨.type c, _, _, _⟩ => decide (c = "dict")
  | _ => false
theorem sysB_ok {K : PySem.W.Frag} (h : sysB K = true) : SysD K := by
  unfold sysB at h
  cases q : K.lookup sysModules with
  | none => rw [q] at h; cases h
  | some o =>
    obtain ⟨oc, od, dt, sl⟩ := o
    rw [q] at h
    cases oc with
    | type c =>
      have e : c = "dict" := of_decide_eq_true h
      exact ⟨_, q, by rw [e]⟩
    | _ => cases h
theorem con_ok {C : Ct} {h : Heap} {mg : Str → Option Value} {x : Str} {vs : List He.Dv} {ds : List D} (X : C.K.In h) (G : h.Ns mainGlobals mg) (c : conT C.K x vs = true) (n : tupN C.K x = true) (e : vs.map DvD = ds.map some) : ∃ u v, mg x = some u ∧ RelV v u ∧ (∀ H, RD C H (.kt ds) v) ∧ ∀ es, D.kt ds = .kt es → ∃ a o, v = .ref a ∧ C.K.lookup a = some o ∧ o.cls = .type "tuple" ∧ o.dict = none := by
  obtain ⟨c1, c2⟩ := He.ba c
  obtain ⟨o, h1, h2, h3⟩ := tupN_ok n
  exact ⟨_, .ref (He.ga C.K x), He.glo_ok X G c2, rfl, fun H => ⟨_, _, rfl, He.tupB_ok c1 _, dvs_rd e⟩, fun es _ => ⟨_, o, rfl, h1, h2, h3⟩⟩
theorem fun_of {K : PySem.W.Frag} {x q : Str} {st : Stmt} {f : Addr} {fd : FuncData} (F : FunD K x q (C8.fnArgs st) (C8.fnBody st) (C8.fnScope st) [] [] f fd) : C8.Fun K x q st f fd := by
  obtain ⟨oc, od, dV, kV, doc, pm, an, cdv, ct, osl, e, lk, hcd, _, _⟩ := F.ex
  exact ⟨oc, od, dV, kV, doc, pm, an, cdv, ct, osl, e, lk, hcd⟩
end L3
end
section
set_option autoImplicit false
set_option linter.all false
set_option maxRecDepth 100000
/-! L3: a law from its defs' promises -/
namespace L3
open PySem L2 PyProof.Rows PySem.Spec

/-- a def of the module: name, its class (by place), statement, its names by slot, its parameters, its body in the small language -/
structure DefP where
  x : Str
  cl : Option Nat
  st : Stmt
  N : List Str
  ps : List Str
  ir : Ss
/-- an exception class: its name, its fields, the places of the classes that take it -/
structure XcP where
  x : Str
  fs : List Str
  bs : List Nat
/-- the module's data: defs, other names, classes, their fields -/
structure Md where
  ds : List DefP
  gl : List (Str × GR)
  cls : List Str
  fls : List (Nat × Str)
  /-- tables: a name, keys and defs by place -/
  tbs : List (Str × List (Str × Nat)) := []
  /-- exception classes, numbered behind the classes; the module's file -/
  xs : List XcP := []
  file : Str := Str.empty
def Md.cn (m : Md) (c : Nat) : Str := (m.cls ++ m.xs.map (·.x)).getD c Str.empty
theorem Md.cn_cls {m : Md} {c : Nat} (h : c < m.cls.length) : m.cn c ∈ m.cls := by
  unfold Md.cn
  rw [List.getD_eq_getElem?_getD, List.getElem?_append_left h, List.getElem?_eq_getElem h]
  exact List.getElem_mem h
def Md.xat (m : Md) (c : Nat) : Option XcP := if m.cls.length ≤ c then m.xs[c - m.cls.length]? else none
def Md.exf (m : Md) (c : Nat) : List Str := match m.xat c with
  | some p => p.fs
  | none => []
def Md.sub (m : Md) (c' c : Nat) : Option Bool := match m.xat c', m.xat c with
  | some p, some _ => some (p.bs.contains (c - m.cls.length))
  | _, _ => none
def Md.isx (m : Md) (c : Nat) : HK → Option Bool
  | .own c2 => m.sub c c2
  | .bin _ => none
theorem Md.xat_cn {m : Md} {c : Nat} {p : XcP} (h : m.xat c = some p) : m.cn c = p.x ∧ m.xs[c - m.cls.length]? = some p := by
  unfold Md.xat at h
  split at h
  · rename_i hc
    refine ⟨?_, h⟩
    unfold Md.cn
    rw [List.getD_eq_getElem?_getD, List.getElem?_append_right hc, List.getElem?_map, h]
    rfl
  · cases h
def Md.at_ (m : Md) (d : DefP) : Str × Option Str := match d.cl with
  | none => (d.x, none)
  | some c => (m.cn c, some d.x)
def Md.qual (m : Md) (d : DefP) : Str := match d.cl with
  | none => d.x
  | some c => m.cn c ++ "." ++ d.x
def initN : Str := "__init__"
def Md.row (m : Md) (d : DefP) (j : Nat) : Str × GR := match d.cl with
  | none => (d.x, .fn j)
  | some c => if d.x = initN then (m.cn c, .cls c j) else (dotted d.x, .mth c j)
/-- tables whose defs all stand below -/
def Md.tbk (m : Md) (i : Nat) : List (Str × GR) := m.tbs.zipIdx.filterMap fun p => if p.1.2.all (fun q => decide (q.2 < i)) then some (p.1.1, GR.tab p.2) else none
def Md.glk (m : Md) (i : Nat) : List (Str × GR) := ((m.ds.take i).zipIdx.map fun p => m.row p.1 p.2) ++ (m.gl ++ m.tbk i)
def Md.tab (m : Md) (t : Nat) (z : Str) : Option Nat := match m.tbs[t]? with
  | some r => r.2.lookup z
  | none => none
def Md.tbr (m : Md) : List TbR := m.tbs.map fun r => (r.1, r.2.map fun q => (q.1, match m.ds[q.2]? with
  | some d => d.x
  | none => q.1))
/-- the tables' defs are defs of the module -/
def Md.tbOk (m : Md) : Bool := m.tbs.all fun r => r.2.all fun q => match m.ds[q.2]? with
  | some d => d.cl.isNone
  | none => false
def gOther (gl : List (Str × GR)) : Bool := gl.all fun p => match p.2 with
  | .blt => true
  | .con _ => true
  | .exc _ => true
  | _ => false
/-- the names of exception classes stand for them -/
def Md.xcOk (m : Md) : Bool := m.gl.all fun p => match p.2 with
  | .exc c => (match m.xat c with
    | some q => decide (q.x = p.1)
    | none => false)
  | _ => true
def Md.fl (m : Md) (c : Nat) (f : Str) : Bool := m.fls.any fun p => p.1 == c && p.2 == f
/-- what stands in the text alone -/
structure StP (P : Pr) (m : Md) (i : Nat) (d : DefP) : Prop where
  sc : FnScope d.N d.ps (C8.fnScope d.st)
  ir : cSs 200 ⟨d.N, C8.fnScope d.st, m.glk i, true, false⟩ (C8.fnBody d.st) = some d.ir
  len : ∀ xs M Q X, P.sp i xs M Q X → xs.length = d.ps.length
  ok : Keeps P (P.sp i) d.N.length d.ir
  bd : ∀ (kV doc pm : Value) (an : Option Addr) (cdv ct : Value) (us : List Value), us.length = d.ps.length → bindArgs (PySem.W.fnOf d.x (m.qual d) (C8.fnArgs d.st) (C8.fnBody d.st) (C8.fnScope d.st) .none kV doc pm an cdv ct) ⟨us, []⟩ = pure (d.ps.zip us)
def AllD (p : Nat → DefP → Prop) : Nat → List DefP → Prop
  | _, [] => True
  | i, d :: ds => p i d ∧ AllD p (i + 1) ds
theorem AllD.get {p : Nat → DefP → Prop} : ∀ {ds : List DefP} {j i : Nat} {d : DefP}, AllD p j ds → ds[i]? = some d → p (j + i) d
  | [], j, i, d, h, e => by simp at e
  | d' :: ds, j, 0, d, h, e => by
    have : d' = d := by simpa using e
    subst this
    exact h.1
  | d' :: ds, j, i + 1, d, h, e => by
    have := AllD.get (i := i) (d := d) h.2 (by simpa using e)
    rw [show j + (i + 1) = j + 1 + i by omega]
    exact this
/-! ### constants -/
def dvOf : D → He.Dv
  | .non => .non
  | .bl b => .bl b
  | .int i => .int i
  | .str x => .str x
  | _ => .ty ""
def D.flat0 : D → Bool
  | .non => true
  | .bl _ => true
  | .int _ => true
  | .str _ => true
  | _ => false
mutual
/-- a value of the top, tuples within tuples -/
def D.conB (K : PySem.W.Frag) : D → Value → Bool
  | .non, .none => true
  | .bl b, .bool c => b == c
  | .int i, .int j _ => decide (i = j)
  | .str x, .str y _ => decide (x = y)
  | .tup ds, .ref a => (match K.lookup a with
    | some ⟨.type c, _, .seq its _, _⟩ => decide (c = "tuple") && (decide (its.size ≤ sizeLine) && D.consB K ds its.toList)
    | _ => false)
  | _, _ => false
def D.consB (K : PySem.W.Frag) : List D → List Value → Bool
  | [], [] => true
  | d :: ds, u :: us => D.conB K d u && D.consB K ds us
  | _, _ => false
end
mutual
theorem conB_ok {C : Ct} : ∀ {d : D} {u : Value}, D.conB C.K d u = true → ∃ v, RelV v u ∧ (∀ H, RD C H d v) ∧ ∀ ds, d = .tup ds → ∃ a xs, u = .ref a ∧ v = .ref a ∧ SqT C.K (fun _ => none) a xs ∧ ∀ H, RDs C H ds xs
  | .non, u, h => by
    cases u <;> first | exact ⟨.non, rfl, fun _ => rfl, fun _ e => nomatch e⟩ | cases h
  | .bl b, u, h => by
    cases u with
    | bool c =>
      have e : b = c := eq_of_beq h
      subst e
      exact ⟨.bl b, rfl, fun _ => rfl, fun _ e => nomatch e⟩
    | _ => cases h
  | .int i, u, h => by
    cases u with
    | int j t =>
      have e : i = j := of_decide_eq_true h
      subst e
      exact ⟨.int i, ⟨t, rfl⟩, fun _ => rfl, fun _ e => nomatch e⟩
    | _ => cases h
  | .str x, u, h => by
    cases u with
    | str y t =>
      have e : x = y := of_decide_eq_true h
      subst e
      exact ⟨.str x, ⟨t, rfl⟩, fun _ => rfl, fun _ e => nomatch e⟩
    | _ => cases h
  | .tup ds, u, h => by
    cases u with
    | ref a =>
      have h1 : (match C.K.lookup a with
        | some ⟨.type c, _, .seq its _, _⟩ => decide (c = "tuple") && (decide (its.size ≤ sizeLine) && D.consB C.K ds its.toList)
        | _ => false) = true := h
      split at h1
      · rename_i c od its n sl e
        obtain ⟨h2, h3⟩ := He.ba h1
        obtain ⟨h3, h4⟩ := He.ba h3
        obtain ⟨xs, hv, hd⟩ := consB_ok (C := C) h4
        have sq : SqT C.K (fun _ => none) a xs := .inr ⟨_, its, n, e, congrArg Value.type (of_decide_eq_true h2), rfl, of_decide_eq_true h3, hv⟩
        exact ⟨.ref a, rfl, fun H => ⟨a, xs, rfl, .inr sq, hd H⟩, fun ds' e' => by cases e'; exact ⟨a, xs, rfl, rfl, sq, hd⟩⟩
      · cases h1
    | _ => cases h
  | .ref _, u, h => by cases u <;> cases h
  | .kl _, u, h => by cases u <;> cases h
  | .kt _, u, h => by cases u <;> cases h
  | .exn _ _, u, h => by cases u <;> cases h
theorem consB_ok {C : Ct} : ∀ {ds : List D} {us : List Value}, D.consB C.K ds us = true → ∃ xs, Vals xs us ∧ ∀ H, RDs C H ds xs
  | [], [], _ => ⟨[], .nil, fun _ => rfl⟩
  | [], _ :: _, h => nomatch h
  | _ :: _, [], h => nomatch h
  | d :: ds, u :: us, h => by
    obtain ⟨h1, h2⟩ := He.ba (show (D.conB C.K d u && D.consB C.K ds us) = true from h)
    obtain ⟨v, r, rd, _⟩ := conB_ok (C := C) h1
    obtain ⟨xs, rs, rds⟩ := consB_ok (C := C) h2
    exact ⟨v :: xs, .cons r rs, fun H => ⟨v, xs, rfl, rd H, rds H⟩⟩
end
def conX (K : PySem.W.Frag) (x : Str) : D → Bool
  | .int i => (He.Fa.int x i).ok K
  | .str z => (He.Fa.str x z).ok K
  | .kt ds => ((He.Fa.glo x).ok K && D.conB K (.tup ds) (.ref (He.ga K x))) && tupN K x
  | _ => false
theorem dv_all : ∀ {ds : List D}, ds.all D.flat0 = true → (ds.map dvOf).map DvD = ds.map some
  | [], _ => rfl
  | d :: ds, h => by
    have h' : (d.flat0 && ds.all D.flat0) = true := h
    obtain ⟨h1, h2⟩ := He.ba h'
    show DvD (dvOf d) :: (ds.map dvOf).map DvD = some d :: ds.map some
    rw [dv_all h2]
    congr 1
    cases d <;> first | rfl | cases h1
theorem conX_ok {C : Ct} {h : Heap} {mg : Str → Option Value} {x : Str} {d : D} (X : C.K.In h) (G : h.Ns mainGlobals mg) (c : conX C.K x d = true) : ∃ u v, mg x = some u ∧ RelV v u ∧ (∀ H, RD C H d v) ∧ ∀ es, d = .kt es → ∃ a o, v = .ref a ∧ C.K.lookup a = some o ∧ o.cls = .type "tuple" ∧ o.dict = none := by
  cases d with
  | int i =>
    obtain ⟨t, e⟩ := He.int_ok X G c
    exact ⟨_, .int i, e, ⟨t, rfl⟩, fun _ => rfl, fun _ z => nomatch z⟩
  | str z =>
    obtain ⟨t, e⟩ := He.str_ok X G c
    exact ⟨_, .str z, e, ⟨t, rfl⟩, fun _ => rfl, fun _ z => nomatch z⟩
  | kt ds =>
    obtain ⟨c1, c3⟩ := He.ba c
    obtain ⟨c1, c2⟩ := He.ba c1
    obtain ⟨o, h1, h2, h3⟩ := tupN_ok c3
    obtain ⟨v, rv, rd, tp⟩ := conB_ok c2
    obtain ⟨a, xs, e1, e2, sq, rds⟩ := tp ds rfl
    cases e1
    subst e2
    exact ⟨_, .ref (He.ga C.K x), He.glo_ok X G c1, rfl, fun H => ⟨_, xs, rfl, sq, rds H⟩, fun es _ => ⟨_, o, rfl, h1, h2, h3⟩⟩
  | _ => cases c
/-! ### what is asked of the head -/
def freeOf (gl : List (Str × GR)) : List Str := gl.filterMap fun p => match p.2 with
  | .blt => some p.1
  | _ => none
def Md.fact (m : Md) (d : DefP) : He.Fa := match d.cl with
  | none => .glo d.x
  | some c => if d.x = initN then .mkr (m.cn c) else .meth (m.cn c) d.x
def Md.fa (m : Md) : List He.Fa := m.ds.map m.fact ++ ((freeOf m.gl).map He.Fa.free ++ (m.cls.map He.Fa.glo ++ (m.cls.map He.Fa.cls ++ m.fls.map fun p => He.Fa.noat (m.cn p.1) p.2)))
def Md.fn (m : Md) : List He.DefD := m.ds.map fun d => ⟨m.at_ d, d.x, m.qual d, C8.fnArgs d.st, C8.fnBody d.st, C8.fnScope d.st, [], []⟩
def Md.ex0 (m : Md) (K : PySem.W.Frag) : Bool := sysB K && m.gl.all fun p => match p.2 with
  | .con d => conX K p.1 d
  | _ => true
/-- the exception classes are as they are told -/
def Md.xcB (m : Md) (K : PySem.W.Frag) : Bool := m.xs.all fun p => (He.Fa.glo p.x).ok K && (exkB m.file K (He.ga K p.x) p.fs && (excCB K (He.ga K p.x) && (xfB K (He.ga K p.x) && (p.fs.all (fun f => decide (PySem.W.findIn K (.ref (He.ga K p.x)) f = some none)) &&
  m.xs.zipIdx.all fun q => decide (PySem.W.exmOne K (.ref (He.ga K p.x)) (.ref (He.ga K q.1.x)) = some (p.bs.contains q.2)) && decide (PySem.W.kitOne K (.ref (He.ga K p.x)) (.ref (He.ga K q.1.x)) = some (p.bs.contains q.2))))))
def Md.ex (m : Md) (K : PySem.W.Frag) : Bool := (m.ex0 K && m.tbr.all (tabX K)) && m.xcB K
/-- what is asked of the program's text -/
def Md.pgB (m : Md) (P : Program) : Bool := m.xs.isEmpty || (decide ((P.main.file : Str) = m.file) && !(P.main.scope.names.lookup ("super" : Str)).isSome)
/-- the fields' classes are there -/
def Md.flOk (m : Md) : Bool := m.fls.all fun p => decide (p.1 < m.cls.length)
abbrev hookOf (m : Md) : PySem.W.Hook := hook3 4 m.fa m.fn m.tbr m.ex
def obOf (m : Md) (s : PySem.W.SharedT) : Al3 := obs3 4 m.fa m.fn m.tbr m.ex (HandSHeadRun.getT s)
theorem obOf_eq (m : Md) (s : PySem.W.SharedT) : obOf m s = (hookOf m).obs s.abs := obs3_eq (HandSHeadRun.getT_eq s)
section
variable {Pg : Program} {w : World} {K : PySem.W.Frag} {mg : Str → Option Value} {base h : Heap} {P : Pr} {m : Md}
def Md.ca (m : Md) (K : PySem.W.Frag) (c : Nat) : Addr := He.ga K (m.cn c)
theorem fact_in {fa : List He.Fa} {fn : List He.DefD} {f : He.Fa} (c : He.SaysD fa fn K) (h : f ∈ fa) : f.ok K = true := by
  obtain ⟨i, e⟩ := List.getElem?_of_mem h
  exact c.fact i e
theorem fact_of (c : Says3 m.fa m.fn m.tbr m.ex w K) {i : Nat} {d : DefP} (e : m.ds[i]? = some d) : (m.fact d).ok K = true :=
  fact_in c.d (List.mem_append_left _ (List.mem_map.mpr ⟨d, List.mem_of_getElem? e, rfl⟩))
theorem def_of (c : Says3 m.fa m.fn m.tbr m.ex w K) {i : Nat} {d : DefP} (e : m.ds[i]? = some d) : ∃ fd, FunD K d.x (m.qual d) (C8.fnArgs d.st) (C8.fnBody d.st) (C8.fnScope d.st) [] [] (He.fAd K (m.at_ d)) fd := by
  obtain ⟨fd, F⟩ := c.d.def_ i (d := ⟨m.at_ d, d.x, m.qual d, C8.fnArgs d.st, C8.fnBody d.st, C8.fnScope d.st, [], []⟩) (by show (m.ds.map _)[i]? = _; rw [List.getElem?_map, e]; rfl)
  exact ⟨fd, F⟩
theorem dotted_inj {a b : Str} (h : dotted a = dotted b) : a = b := by
  have h2 : #[46] ++ a.cps = #[46] ++ b.cps := congrArg Str.cps h
  obtain ⟨x⟩ := a
  obtain ⟨y⟩ := b
  congr 1
  exact Array.append_right_inj _ |>.mp h2
theorem cls_at (hc : m.flOk = true) (X : K.In h) (G : h.Ns mainGlobals mg) (c : Says3 m.fa m.fn m.tbr m.ex w K) (hP : P.fl = m.fl) (i : Nat) (f : Str) (hf : P.fl i f = true) : Cls K (m.ca K i) ∧ NoAttr K (m.ca K i) f := by
  rw [hP] at hf
  obtain ⟨p, hp, e⟩ := List.any_eq_true.mp hf
  rw [Bool.and_eq_true] at e
  have e1 : p.1 = i := by simpa using e.1
  have e2 : p.2 = f := by simpa using e.2
  subst e1 e2
  have hl : p.1 < m.cls.length := of_decide_eq_true (List.all_eq_true.mp hc p hp)
  have hm : m.cn p.1 ∈ m.cls := Md.cn_cls hl
  exact ⟨He.cls_ok (fact_in c.d (List.mem_append_right _ (List.mem_append_right _ (List.mem_append_right _ (List.mem_append_left _ (List.mem_map.mpr ⟨_, hm, rfl⟩)))))),
    He.noat_ok (fact_in c.d (List.mem_append_right _ (List.mem_append_right _ (List.mem_append_right _ (List.mem_append_right _ (List.mem_map.mpr ⟨p, hp, rfl⟩))))))⟩
/-- the classes that have a def stand among the classes -/
def Md.clOk (m : Md) : Bool := m.ds.all fun d => match d.cl with
  | none => true
  | some c => decide (c < m.cls.length)
/-- every def keeps its promise, level by level -/
theorem all_fng (hc : m.flOk = true) (hd : m.clOk = true) (hP : P.fl = m.fl ∧ P.tab = m.tab ∧ P.exf = m.exf ∧ P.sub = m.sub ∧ P.isx = m.isx) (hx : m.xcOk = true) (hpg : m.pgB Pg = true) (ht : m.tbOk = true) (X : K.In h) (G : h.Ns mainGlobals mg) (c : Says3 m.fa m.fn m.tbr m.ex w K) (go : gOther m.gl = true) (S : AllD (StP P m) 0 m.ds) : ∀ (i : Nat) (d : DefP) (fd : FuncData), m.ds[i]? = some d → FunD K d.x (m.qual d) (C8.fnArgs d.st) (C8.fnBody d.st) (C8.fnScope d.st) [] [] (He.fAd K (m.at_ d)) fd →
    FnG ⟨Pg, w, K, m.ca K⟩ mg base (2 * i + 5) (He.fAd K (m.at_ d)) fd d.ps (P.sp i) := by
  intro i
  obtain ⟨cx, cxx⟩ := He.ba (show ((m.ex0 K && m.tbr.all (tabX K)) && m.xcB K) = true from c.x)
  obtain ⟨cx, cxt⟩ := He.ba cx
  obtain ⟨cx1, cx2⟩ := He.ba (show (sysB K && m.gl.all fun p => match p.2 with | .con d => conX K p.1 d | _ => true) = true from cx)
  have cnM : ∀ {j : Nat} {d : DefP} {k : Nat}, m.ds[j]? = some d → d.cl = some k → m.cn k ∈ m.cls := fun {j d k} e ek => by
    have z := List.all_eq_true.mp hd d (List.mem_of_getElem? e)
    rw [ek] at z
    exact Md.cn_cls (of_decide_eq_true z)
  have gloC : ∀ {x : Str}, x ∈ m.cls → mg x = some (.ref (He.ga K x)) := fun {x} hx => He.glo_ok X G (fact_in c.d (List.mem_append_right _ (List.mem_append_right _ (List.mem_append_left _ (List.mem_map.mpr ⟨x, hx, rfl⟩)))))
  have clsC : ∀ {x : Str}, x ∈ m.cls → Cls K (He.ga K x) := fun {x} hx => He.cls_ok (fact_in c.d (List.mem_append_right _ (List.mem_append_right _ (List.mem_append_right _ (List.mem_append_left _ (List.mem_map.mpr ⟨x, hx, rfl⟩))))))
  induction i using Nat.strongRecOn with
  | ind i ih =>
    intro d fd e F
    have s := S.get e
    rw [Nat.zero_add] at s
    -- a row of the names is a def below
    have below : ∀ {x : Str} {g : GR}, (m.glk i).lookup x = some g → ((x, g) ∈ m.gl) ∨ (∃ (t : Nat) (r : Str × List (Str × Nat)), m.tbs[t]? = some r ∧ x = r.1 ∧ g = .tab t ∧ ∀ q ∈ r.2, q.2 < i) ∨ ∃ (j : Nat) (d' : DefP), j < i ∧ m.ds[j]? = some d' ∧ m.row d' j = (x, g) := fun {x g} hx => by
      rcases List.mem_append.mp (PySem.mem_of_lookup hx) with hm | hm
      · obtain ⟨⟨d', j'⟩, hm2, ee⟩ := List.mem_map.mp hm
        obtain ⟨_, hlt, e'⟩ := List.mem_zipIdx hm2
        have hji : j' < i := by rw [List.length_take] at hlt; omega
        refine .inr (.inr ⟨j', d', hji, ?_, ee⟩)
        rw [e', List.getElem_take]
        simp only [Nat.sub_zero]
        exact List.getElem?_eq_getElem _
      · rcases List.mem_append.mp hm with hm | hm
        · exact .inl hm
        · obtain ⟨⟨r, t⟩, hm2, ee⟩ := List.mem_filterMap.mp hm
          obtain ⟨_, hlt, e'⟩ := List.mem_zipIdx hm2
          simp only at ee
          split at ee
          · rename_i ha
            cases ee
            refine .inr (.inl ⟨t, r, ?_, rfl, rfl, fun q hq => of_decide_eq_true (List.all_eq_true.mp ha q hq)⟩)
            rw [e']
            simp only [Nat.sub_zero]
            exact List.getElem?_eq_getElem _
          · cases ee
    have other : ∀ {x : Str} {g : GR}, (x, g) ∈ m.gl → g = .blt ∨ (∃ v, g = .con v) ∨ ∃ v, g = .exc v := fun {x g} hm => by
      have := List.all_eq_true.mp go _ hm
      cases g with
      | blt => exact .inl rfl
      | con v => exact .inr (.inl ⟨v, rfl⟩)
      | exc v => exact .inr (.inr ⟨v, rfl⟩)
      | _ => cases this
    -- an exception class
    have xc : ∀ {c : Nat} {p : XcP}, m.xat c = some p → (He.Fa.glo p.x).ok K = true ∧ exkB m.file K (m.ca K c) p.fs = true ∧ excCB K (m.ca K c) = true ∧ xfB K (m.ca K c) = true ∧ (∀ f ∈ p.fs, PySem.W.findIn K (.ref (m.ca K c)) f = some none) ∧
        ∀ {c2 : Nat} {q : XcP}, m.xat c2 = some q → PySem.W.exmOne K (.ref (m.ca K c)) (.ref (m.ca K c2)) = some (p.bs.contains (c2 - m.cls.length)) ∧ PySem.W.kitOne K (.ref (m.ca K c)) (.ref (m.ca K c2)) = some (p.bs.contains (c2 - m.cls.length)) := fun {c p} hp => by
      obtain ⟨e1, e2⟩ := Md.xat_cn hp
      have z := List.all_eq_true.mp cxx p (List.mem_of_getElem? e2)
      obtain ⟨z1, z⟩ := He.ba z
      obtain ⟨z2, z⟩ := He.ba z
      obtain ⟨z3, z⟩ := He.ba z
      obtain ⟨z4, z⟩ := He.ba z
      obtain ⟨z5, z6⟩ := He.ba z
      have ec : m.ca K c = He.ga K p.x := by unfold Md.ca; rw [e1]
      rw [ec]
      refine ⟨z1, z2, z3, z4, fun f hf => of_decide_eq_true (List.all_eq_true.mp z5 f hf), fun {c2 q} hq => ?_⟩
      obtain ⟨u1, u2⟩ := Md.xat_cn hq
      have ec2 : m.ca K c2 = He.ga K q.x := by unfold Md.ca; rw [u1]
      have hmem : (q, c2 - m.cls.length) ∈ m.xs.zipIdx := by
        rw [List.mem_zipIdx_iff_getElem?]
        exact u2
      have y := List.all_eq_true.mp z6 _ hmem
      obtain ⟨y1, y2⟩ := He.ba y
      rw [ec2]
      exact ⟨of_decide_eq_true y1, of_decide_eq_true y2⟩
    have pg : ∀ {c : Nat} {p : XcP}, m.xat c = some p → (Pg.main.file : Str) = m.file ∧ (Pg.main.scope.names.lookup ("super" : Str)).isSome = false := fun {c p} hp => by
      obtain ⟨_, e2⟩ := Md.xat_cn hp
      rcases Bool.or_eq_true_iff.mp hpg with z | z
      · rw [List.isEmpty_iff.mp z] at e2
        cases e2
      · obtain ⟨z1, z2⟩ := He.ba z
        exact ⟨of_decide_eq_true z1, by simpa using z2⟩
    have exc0 : ∀ {x : Str} {c : Nat}, (x, GR.exc c) ∈ m.gl → ∃ p, m.xat c = some p ∧ p.x = x := fun {x c} hm => by
      have z := List.all_eq_true.mp hx _ hm
      simp only at z
      cases e : m.xat c with
      | none => rw [e] at z; cases z
      | some p => rw [e] at z; exact ⟨p, rfl, of_decide_eq_true z⟩
    have sub : ∀ {j : Nat} {d' : DefP}, j < i → m.ds[j]? = some d' → ∃ fd', PySem.W.keepIn K (.ref (He.fAd K (m.at_ d'))) = true ∧ Binds K fd' d'.ps [] ∧ FnG ⟨Pg, w, K, m.ca K⟩ mg base (2 * j + 5) (He.fAd K (m.at_ d')) fd' d'.ps (P.sp j) := fun {j d'} hj e' => by
      obtain ⟨fd', F'⟩ := def_of c e'
      have s' := S.get e'
      rw [Nat.zero_add] at s'
      exact ⟨fd', F'.kp, F'.bindsN s'.bd, ih j hj d' fd' e' F'⟩
    refine fng_of (k := 2 * i + 4) (fun_of F) s.sc s.ir (sysB_ok cx1) s.len s.ok ⟨fun x j hx => ?_, fun x hx => ?_, fun x k j hx => ?_, fun x k j hx => ?_, fun k f hf => cls_at hc X G c hP.1 k f hf, fun x v hx => ?_, fun x k hx => ?_, fun k f hf => ?_, fun k q b hb => ?_, fun x t hx => ?_⟩
    · rcases below hx with hm | ⟨_, _, _, _, z, _⟩ | ⟨j', d', hj, e', er⟩
      · rcases other hm with z | ⟨v, z⟩ | ⟨v, z⟩ <;> cases z
      · cases z
      · unfold Md.row at er
        cases q : d'.cl with
        | some k => rw [q] at er; simp only at er; split at er <;> (have := (Prod.mk.inj er).2; cases this)
        | none =>
          rw [q] at er
          cases er
          obtain ⟨fd', h1, h2, h3⟩ := sub hj e'
          have ea : m.at_ d' = (d'.x, none) := by unfold Md.at_; rw [q]
          have f1 := fact_of c e'
          unfold Md.fact at f1
          rw [q] at f1
          rw [ea] at h1 h3
          exact ⟨2 * j + 5, _, fd', d'.ps, by omega, He.glo_ok X G f1, h1, h2, h3⟩
    · rcases below hx with hm | ⟨_, _, _, _, z, _⟩ | ⟨j', d', hj, e', er⟩
      rotate_left
      · cases z
      rotate_left
      · exact He.free_ok X G (fact_in c.d (List.mem_append_right _ (List.mem_append_left _ (List.mem_map.mpr ⟨x, List.mem_filterMap.mpr ⟨_, hm, rfl⟩, rfl⟩))))
      · unfold Md.row at er
        cases q : d'.cl with
        | some k => rw [q] at er; simp only at er; split at er <;> (have := (Prod.mk.inj er).2; cases this)
        | none => rw [q] at er; have := (Prod.mk.inj er).2; cases this
    · rcases below hx with hm | ⟨_, _, _, _, z, _⟩ | ⟨j', d', hj, e', er⟩
      · rcases other hm with z | ⟨v, z⟩ | ⟨v, z⟩ <;> cases z
      · cases z
      · unfold Md.row at er
        cases q : d'.cl with
        | none => rw [q] at er; have := (Prod.mk.inj er).2; cases this
        | some k' =>
          rw [q] at er
          simp only at er
          split at er
          · rename_i hi
            obtain ⟨er1, er2⟩ := Prod.mk.inj er
            cases er2
            subst er1
            obtain ⟨fd', h1, h2, h3⟩ := sub hj e'
            have ea : m.at_ d' = (m.cn k, some d'.x) := by unfold Md.at_; rw [q]
            have f1 := fact_of c e'
            unfold Md.fact at f1
            rw [q] at f1
            simp only at f1
            rw [if_pos hi] at f1
            rw [ea] at h3
            have ef : He.fAd K (m.cn k, some d'.x) = He.ma K (He.ga K (m.cn k)) "__init__" := by rw [hi]; rfl
            rw [ef] at h3
            exact ⟨2 * j + 5, _, fd', d'.ps, by omega, gloC (cnM e' q), He.mkr_ok f1, h2, h3⟩
          · have := (Prod.mk.inj er).2; cases this
    · rcases below hx with hm | ⟨_, _, _, _, z, _⟩ | ⟨j', d', hj, e', er⟩
      · rcases other hm with z | ⟨v, z⟩ | ⟨v, z⟩ <;> cases z
      · cases z
      · unfold Md.row at er
        cases q : d'.cl with
        | none => rw [q] at er; have := (Prod.mk.inj er).2; cases this
        | some k' =>
          rw [q] at er
          simp only at er
          split at er
          · have := (Prod.mk.inj er).2; cases this
          · rename_i hi
            obtain ⟨er1, er2⟩ := Prod.mk.inj er
            cases er2
            have ex := dotted_inj er1
            subst ex
            obtain ⟨fd', h1, h2, h3⟩ := sub hj e'
            have ea : m.at_ d' = (m.cn k, some d'.x) := by unfold Md.at_; rw [q]
            have f1 := fact_of c e'
            unfold Md.fact at f1
            rw [q] at f1
            simp only at f1
            rw [if_neg hi] at f1
            rw [ea] at h3
            exact ⟨2 * j + 5, _, fd', d'.ps, by omega, clsC (cnM e' q), He.meth_ok f1, h2, h3⟩
    · rcases below hx with hm | ⟨_, _, _, _, z, _⟩ | ⟨j', d', hj, e', er⟩
      rotate_left
      · cases z
      rotate_left
      · exact conX_ok (C := ⟨Pg, w, K, m.ca K⟩) X G (List.all_eq_true.mp cx2 _ hm)
      · unfold Md.row at er
        cases q : d'.cl with
        | some k => rw [q] at er; simp only at er; split at er <;> (have := (Prod.mk.inj er).2; cases this)
        | none => rw [q] at er; have := (Prod.mk.inj er).2; cases this
    · rcases below hx with hm | ⟨_, _, _, _, z, _⟩ | ⟨j', d', hj, e', er⟩
      rotate_left
      · cases z
      rotate_left
      · obtain ⟨p, hp, ex⟩ := exc0 hm
        obtain ⟨x1, x2, x3, x4, x5, x6⟩ := xc hp
        obtain ⟨y1, y2⟩ := pg hp
        have ec : m.ca K k = He.ga K p.x := by unfold Md.ca; rw [(Md.xat_cn hp).1]
        have ef : P.exf k = p.fs := by
          rw [hP.2.2.1]
          unfold Md.exf
          rw [hp]
        refine ⟨?_, ?_, by omega, fun c' b hb => ?_⟩
        · rw [← ex]
          show mg p.x = some (.ref (m.ca K k))
          rw [ec]
          exact He.glo_ok X G x1
        · rw [ef]
          exact exkB_ok y1 y2 x2
        · rw [hP.2.2.2.1] at hb
          unfold Md.sub at hb
          rw [hp] at hb
          cases e : m.xat c' with
          | none => rw [e] at hb; cases hb
          | some p' =>
            rw [e] at hb
            cases hb
            exact ((xc e).2.2.2.2.2 hp).1
      · unfold Md.row at er
        cases q : d'.cl with
        | some k => rw [q] at er; simp only at er; split at er <;> (have := (Prod.mk.inj er).2; cases this)
        | none => rw [q] at er; have := (Prod.mk.inj er).2; cases this
    · rw [hP.2.2.1] at hf
      unfold Md.exf at hf
      cases e : m.xat k with
      | none => rw [e] at hf; cases hf
      | some p =>
        rw [e] at hf
        have hf : f ∈ p.fs := by simpa using hf
        obtain ⟨x1, x2, x3, x4, x5, x6⟩ := xc e
        exact ⟨xfB_ok x4, x5 f hf⟩
    · rw [hP.2.2.2.2] at hb
      cases q with
      | bin x => cases hb
      | own c2 =>
        have hb : m.sub k c2 = some b := hb
        unfold Md.sub at hb
        cases e : m.xat k with
        | none => rw [e] at hb; cases hb
        | some p =>
          cases e2 : m.xat c2 with
          | none => rw [e, e2] at hb; cases hb
          | some p2 =>
            rw [e, e2] at hb
            cases hb
            obtain ⟨x1, x2, x3, x4, x5, x6⟩ := xc e
            exact ⟨excCB_ok x3, (x6 e2).2⟩
    · rcases below hx with hm | ⟨t', r, hr, ex, z, hlt⟩ | ⟨j', d', hj, e', er⟩
      · rcases other hm with z | ⟨v, z⟩ | ⟨v, z⟩ <;> cases z
      · cases z
        subst ex
        have hmem : (r.1, r.2.map fun q => (q.1, match m.ds[q.2]? with
          | some d => d.x
          | none => q.1)) ∈ m.tbr := List.mem_map.mpr ⟨r, List.mem_of_getElem? hr, rfl⟩
        obtain ⟨t1, t2⟩ := He.ba (show ((He.Fa.glo r.1).ok K && He.valsB K (He.ga K r.1) ((r.2.map fun q => (q.1, match m.ds[q.2]? with
          | some d => d.x
          | none => q.1)).map fun q => (q.1, He.Dv.glo q.2))) = true from List.all_eq_true.mp cxt _ hmem)
        obtain ⟨es, n, kd⟩ := c.tab hmem
        refine ⟨He.ga K r.1, He.glo_ok X G t1, fun z f hz => ?_⟩
        rw [hP.2.1] at hz
        unfold Md.tab at hz
        rw [hr] at hz
        have hq : (z, f) ∈ r.2 := PySem.mem_of_lookup hz
        have hd := List.all_eq_true.mp (List.all_eq_true.mp ht r (List.mem_of_getElem? hr)) _ hq
        cases e : m.ds[f]? with
        | none => simp only [e] at hd; cases hd
        | some d' =>
          simp only [e] at hd
          have q : d'.cl = none := Option.isNone_iff_eq_none.mp hd
          obtain ⟨fd', h1, h2, h3⟩ := sub (hlt _ hq) e
          have ea : m.at_ d' = (d'.x, none) := by unfold Md.at_; rw [q]
          rw [ea] at h1 h3
          obtain ⟨u, hu, ru⟩ := He.valsB_ok t2 (q := (z, He.Dv.glo d'.x)) (List.mem_map.mpr ⟨(z, d'.x), List.mem_map.mpr ⟨(z, f), hq, by simp only [e]⟩, rfl⟩)
          exact ⟨_, 2 * f + 5, fd', d'.ps, by have := hlt _ hq; omega, ⟨es, n, u, kd.at_, kd.lit, hu, ru⟩, h1, h2, h3⟩
      · unfold Md.row at er
        cases q : d'.cl with
        | some k => rw [q] at er; simp only at er; split at er <;> (have := (Prod.mk.inj er).2; cases this)
        | none => rw [q] at er; have := (Prod.mk.inj er).2; cases this
end
/-- the law: its head's call case -/
theorem hc3 {l : PySem.W.OpenLaw} {n i : Nat} {q : Program} {loose : List Str} {XP : (Str → Option Value) → Heap → Prop} {dr : DefRec} {x : Str} {P : Pr} {m : Md} {dl : DefP}
    (hn : l.most = some n) (hn2 : n ≤ sizeLine) (hdf : dr.params.defaults = []) (hc : (m.flOk && m.clOk && gOther m.gl && m.tbOk && m.xcOk) = true) (hpg : m.pgB l.prog = true) (hP : P.fl = m.fl ∧ P.tab = m.tab ∧ P.exf = m.exf ∧ P.sub = m.sub ∧ P.isx = m.isx) (S : AllD (StP P m) 0 m.ds) (hl : m.ds[i]? = some dl) (hcl : dl.cl = none) (hp : dl.ps = [x]) (hx : dr.name = dl.x) (room : Room (2 * i + 5) callerA)
    (fin : ∀ ns : List Int, ns.length ≤ n → ∀ Q X, (∀ M, Q (.bl true) M) → P.sp i [.kl (ns.map .int)] (fun _ => none) Q X) :
    PySem.W.WalkO q loose XP (hookOf m).says l.row.toRowW dr [] (fun f vs => PySem.call f vs) := by
  rw [Bool.and_eq_true, Bool.and_eq_true, Bool.and_eq_true, Bool.and_eq_true] at hc
  obtain ⟨⟨⟨⟨hc1, hc2⟩, hc3⟩, hc4⟩, hc5⟩ := hc
  refine walk3 (x := x) (k := 2 * i + 5) hn hn2 hdf room fun w mg fa h Y G hmg => ?_
  obtain ⟨K, KX, c⟩ := Y
  obtain ⟨fd, F⟩ := def_of c hl
  have ea : m.at_ dl = (dl.x, none) := by unfold Md.at_; rw [hcl]
  have f1 := fact_of c hl
  unfold Md.fact at f1
  rw [hcl] at f1
  rw [hx] at hmg
  have e : some (Value.ref fa) = some (.ref (He.ga K dl.x)) := hmg.symm.trans (He.glo_ok KX G f1)
  cases e
  have s := S.get hl
  rw [Nat.zero_add] at s
  refine ⟨K, fd, m.ca K, P.sp i, KX, fun s' u => ?_, fun base _ _ => ?_, fin⟩
  · have b := FunD.bindsA (ps := dl.ps) F s.bd s' [u] (by rw [hp]; rfl)
    rw [hp] at b
    exact b
  · have g := all_fng (Pg := l.prog) (w := w) (base := base) hc1 hc2 hP hc5 hpg hc4 KX G c hc3 S i dl fd hl F
    rw [hp, ea] at g
    exact g
end L3
end
section
set_option Elab.async false
set_option linter.all false
set_option maxRecDepth 100000
set_option maxHeartbeats 0
/-! the data of law_k52_frames_read -/
namespace K52
open PySem L2 PyProof.Rows PySem.Spec L3
def top (i : Nat) : Stmt := PySem.Challenge.pw_vatlink_k52_frames_read.main.body.getD i (.Pass ⟨0, 0, 0, 0⟩)
def inC (s : Stmt) (j : Nat) : Stmt := match s with
  | .ClassDef (body := b) .. => b.getD j (.Pass ⟨0, 0, 0, 0⟩)
  | _ => .Pass ⟨0, 0, 0, 0⟩
def b__law_same : Ss := (.cons (.ret (.cmp .eq (.blt .repr (.cons (.var 0) .nil)) (.blt .repr (.cons (.var 1) .nil)))) .nil)
def p__law_same : DefP := ⟨"_law_same", none, top 57, ["_law_actual", "_law_due"], ["_law_actual", "_law_due"], b__law_same⟩
def b_Reading_digits_0 : Ss := (.cons (.ite (.val (.cmp .ge (.fld (.var 0) "at") (.blt .len (.cons (.fld (.var 0) "numbers") .nil)))) (.cons (.raise 1 (.cons (.blt .len (.cons (.fld (.var 0) "numbers") .nil)) .nil)) .nil) .nil) (.cons (.set (.one 5) (.ix (.fld (.var 0) "numbers") (.fld (.var 0) "at"))) (.cons (.ite (.or (.val (.cmp .eq (.var 4) (.var 1))) (.or (.val (.cmp .lt (.var 5) (.int 0))) (.or (.val (.cmp .gt (.var 5) (.int 255))) (.and (.val (.cmp .eq (.var 5) (.int 0))) (.val (.cmp .gt (.var 4) (.int 0))))))) (.cons (.raise 1 (.cons (.fld (.var 0) "at") .nil)) .nil) .nil) (.cons (.augFld (.var 0) "at" .add (.int 1)) (.cons (.ite (.val (.cmp .lt (.var 5) (.int 128))) (.cons (.ret (.bin .add (.var 2) (.bin .mul (.var 3) (.var 5)))) .nil) .nil) (.cons (.aug 2 .add (.bin .mul (.var 3) (.bin .sub (.var 5) (.int 128)))) (.cons (.set (.one 3) (.bin .mul (.var 3) (.int 128))) .nil)))))))
def b_Reading_digits : Ss := (.cons (.set (.one 2) (.int 0)) (.cons (.set (.one 3) (.int 1)) (.cons (.for (.one 4) .range (.cons (.bin .add (.var 1) (.int 1)) .nil) b_Reading_digits_0) (.cons (.ret (.var 2)) .nil))))
def p_Reading_digits : DefP := ⟨"digits", some 0, inC (top 25) 1, ["self", "most", "total", "unit", "done", "digit"], ["self", "most"], b_Reading_digits⟩
def b_Reading_count : Ss := (.cons (.set (.one 3) (.umth (.var 0) "digits" 0 1 (.cons (.con (.int 5)) .nil))) (.cons (.ite (.or (.val (.cmp .lt (.var 3) (.var 1))) (.val (.cmp .gt (.var 3) (.var 2)))) (.cons (.raise 1 (.cons (.bin .sub (.fld (.var 0) "at") (.int 1)) .nil)) .nil) .nil) (.cons (.ret (.var 3)) .nil)))
def p_Reading_count : DefP := ⟨"count", some 0, inC (top 25) 2, ["self", "least", "most", "number"], ["self", "least", "most"], b_Reading_count⟩
def b_Reading___init__ : Ss := (.cons (.setFld (.var 0) "numbers" (.var 1)) (.cons (.setFld (.var 0) "at" (.int 0)) .nil))
def p_Reading___init__ : DefP := ⟨"__init__", some 0, inC (top 25) 0, ["self", "numbers"], ["self", "numbers"], b_Reading___init__⟩
def b_Reading_big : Ss := (.cons (.ret (.umth (.var 0) "digits" 0 1 (.cons (.con (.int 2000)) .nil))) .nil)
def p_Reading_big : DefP := ⟨"big", some 0, inC (top 25) 3, ["self"], ["self"], b_Reading_big⟩
def b_Reading_weight : Ss := (.cons (.set (.one 1) (.umth (.var 0) "big" 0 4 .nil)) (.cons (.set (.one 2) (.umth (.var 0) "count" 0 2 (.cons (.int 0) (.cons (.con (.int 10000)) .nil)))) (.cons (.ite (.or (.val (.cmp .eq (.var 1) (.int 0))) (.and (.val (.cmp .gt (.var 2) (.int 0))) (.val (.cmp .eq (.bin .mod (.var 1) (.int 2)) (.int 0))))) (.cons (.raise 1 (.cons (.bin .sub (.fld (.var 0) "at") (.int 1)) .nil)) .nil) .nil) (.cons (.ret (.tup (.cons (.var 1) (.cons (.var 2) .nil)))) .nil))))
def p_Reading_weight : DefP := ⟨"weight", some 0, inC (top 25) 5, ["self", "numerator", "exponent"], ["self"], b_Reading_weight⟩
def b_Reading_text : Ss := (.cons (.set (.one 2) (.umth (.var 0) "count" 0 2 (.cons (.int 0) (.cons (.var 1) .nil)))) (.cons (.ret (.mth (.str "") .join (.cons (.comp [3] (.ix (.con (.str " !\"#$&'()*+,-./0123456789:;<=>?@ABCDEFGHIJKLMNOPQRSTUVWXYZ[\\]^_`abcdefghijklmnopqrstuvwxyz{|}~")) (.umth (.var 0) "count" 0 2 (.cons (.int 0) (.cons (.bin .sub (.blt .len (.cons (.con (.str " !\"#$&'()*+,-./0123456789:;<=>?@ABCDEFGHIJKLMNOPQRSTUVWXYZ[\\]^_`abcdefghijklmnopqrstuvwxyz{|}~")) .nil)) (.int 1)) .nil)))) (.one 3) .range (.cons (.var 2) .nil) .tt) .nil))) .nil))
def p_Reading_text : DefP := ⟨"text", some 0, inC (top 25) 4, ["self", "most", "size", "_"], ["self", "most"], b_Reading_text⟩
def b_atoms : Ss := (.cons (.ret (.ite (.val (.cmp .eq (.ix (.var 0) (.int 0)) (.str "list"))) (.ix (.var 0) (.int 1)) (.tup (.cons (.var 0) .nil)))) .nil)
def p_atoms : DefP := ⟨"atoms", none, top 10, ["value"], ["value"], b_atoms⟩
def b_is_reference : Ss := (.cons (.ret (.cmp .isIn (.ix (.var 0) (.int 0)) (.tup (.cons (.str "object") (.cons (.str "promise") .nil))))) .nil)
def p_is_reference : DefP := ⟨"is_reference", none, top 9, ["value"], ["value"], b_is_reference⟩
def b_references : Ss := (.cons (.ret (.comp [1] (.var 1) (.one 1) .plain (.cons (.call 7 (.cons (.var 0) .nil)) .nil) (.val (.call 8 (.cons (.var 1) .nil))))) .nil)
def p_references : DefP := ⟨"references", none, top 11, ["value", "atom"], ["value"], b_references⟩
def b_distinct_0 : Ss := (.cons (.ite (.val (.cmp .notIn (.var 3) (.var 1))) (.cons (.expr (.mth (.var 1) .append (.cons (.var 3) .nil))) .nil) .nil) .nil)
def b_distinct_1 : Ss := (.cons (.for (.one 3) .plain (.cons (.call 9 (.cons (.var 2) .nil)) .nil) b_distinct_0) .nil)
def b_distinct : Ss := (.cons (.set (.one 1) (.lst .nil)) (.cons (.for (.one 2) .plain (.cons (.var 0) .nil) b_distinct_1) (.cons (.ret (.var 1)) .nil)))
def p_distinct : DefP := ⟨"distinct", none, top 12, ["values", "found", "value", "reference"], ["values"], b_distinct⟩
def b_read_weights : Ss := (.cons (.set (.one 2) (.blt .len (.cons (.call 10 (.cons (.var 1) .nil)) .nil))) (.cons (.expr (.umth (.var 0) "count" 0 2 (.cons (.var 2) (.cons (.var 2) .nil)))) (.cons (.ret (.blt .tuple (.cons (.comp [3] (.umth (.var 0) "weight" 0 5 .nil) (.one 3) .range (.cons (.var 2) .nil) .tt) .nil))) .nil)))
def p_read_weights : DefP := ⟨"read_weights", none, top 41, ["reading", "values", "size", "_"], ["reading", "values"], b_read_weights⟩
def b_Reading_reference : Ss := (.cons (.set (.one 1) (.ix (.con (.kt [(.str "object"), (.str "promise")])) (.umth (.var 0) "count" 0 2 (.cons (.int 0) (.cons (.int 1) .nil))))) (.cons (.set (.one 2) (.umth (.var 0) "count" 0 2 (.cons (.int 1) (.cons (.con (.int 9)) .nil)))) (.cons (.ret (.tup (.cons (.var 1) (.cons (.var 2) (.cons (.umth (.var 0) "count" 0 2 (.cons (.int 1) (.cons (.con (.int 1000000000)) .nil))) .nil))))) .nil)))
def p_Reading_reference : DefP := ⟨"reference", some 0, inC (top 25) 6, ["self", "kind", "vat"], ["self"], b_Reading_reference⟩
def b_Reading_atom : Ss := (.cons (.set (.one 1) (.umth (.var 0) "count" 0 2 (.cons (.int 0) (.cons (.int 5) .nil)))) (.cons (.ite (.val (.cmp .lt (.var 1) (.int 3))) (.cons (.ret (.ix (.con (.kt [(.tup [(.str "none")]), (.tup [(.str "bool"), (.bl false)]), (.tup [(.str "bool"), (.bl true)])])) (.var 1))) .nil) .nil) (.cons (.ite (.val (.cmp .eq (.var 1) (.int 3))) (.cons (.set (.one 2) (.umth (.var 0) "count" 0 2 (.cons (.int 0) (.cons (.bin .mul (.int 2) (.con (.int 1000000000))) .nil)))) (.cons (.ret (.tup (.cons (.str "int") (.cons (.ite (.val (.cmp .eq (.bin .mod (.var 2) (.int 2)) (.int 0))) (.bin .fdiv (.var 2) (.int 2)) (.bin .sub (.int 0) (.bin .fdiv (.bin .add (.var 2) (.int 1)) (.int 2)))) .nil)))) .nil)) .nil) (.cons (.ite (.val (.cmp .eq (.var 1) (.int 4))) (.cons (.ret (.tup (.cons (.str "text") (.cons (.umth (.var 0) "text" 0 6 (.cons (.con (.int 20)) .nil)) .nil)))) .nil) .nil) (.cons (.ret (.umth (.var 0) "reference" 0 12 .nil)) .nil)))))
def p_Reading_atom : DefP := ⟨"atom", some 0, inC (top 25) 7, ["self", "kind", "number"], ["self"], b_Reading_atom⟩
def b_Reading_value : Ss := (.cons (.ite (.val (.cmp .eq (.umth (.var 0) "count" 0 2 (.cons (.int 0) (.cons (.int 1) .nil))) (.int 0))) (.cons (.ret (.umth (.var 0) "atom" 0 13 .nil)) .nil) .nil) (.cons (.set (.one 1) (.umth (.var 0) "count" 0 2 (.cons (.int 0) (.cons (.con (.int 8)) .nil)))) (.cons (.ret (.tup (.cons (.str "list") (.cons (.blt .tuple (.cons (.comp [2] (.umth (.var 0) "atom" 0 13 .nil) (.one 2) .range (.cons (.var 1) .nil) .tt) .nil)) .nil)))) .nil)))
def p_Reading_value : DefP := ⟨"value", some 0, inC (top 25) 8, ["self", "size", "_"], ["self"], b_Reading_value⟩
def b_read_target : Ss := (.cons (.set (.one 1) (.ix (.con (.kt [(.str "object"), (.str "promise"), (.str "answer")])) (.umth (.var 0) "count" 0 2 (.cons (.int 0) (.cons (.int 2) .nil))))) (.cons (.ite (.val (.cmp .eq (.var 1) (.str "answer"))) (.cons (.set (.one 2) (.umth (.var 0) "count" 0 2 (.cons (.int 1) (.cons (.con (.int 9)) .nil)))) (.cons (.ret (.tup (.cons (.var 1) (.cons (.var 2) (.cons (.umth (.var 0) "count" 0 2 (.cons (.int 1) (.cons (.con (.int 1000000000)) .nil))) .nil))))) .nil)) .nil) (.cons (.ret (.tup (.cons (.var 1) (.cons (.umth (.var 0) "count" 0 2 (.cons (.int 1) (.cons (.con (.int 1000000000)) .nil))) .nil)))) .nil)))
def p_read_target : DefP := ⟨"read_target", none, top 44, ["reading", "kind", "vat"], ["reading"], b_read_target⟩
def b_read_send : Ss := (.cons (.set (.one 1) (.umth (.var 0) "count" 0 2 (.cons (.int 1) (.cons (.con (.int 9)) .nil)))) (.cons (.ret (.tup (.cons (.var 1) (.cons (.umth (.var 0) "count" 0 2 (.cons (.int 1) (.cons (.con (.int 1000000000)) .nil))) .nil)))) .nil))
def p_read_send : DefP := ⟨"read_send", none, top 40, ["reading", "vat"], ["reading"], b_read_send⟩
def b_read_method_0 : Ss := (.cons (.set (.one 3) (.ix (.con (.str " !\"#$&'()*+,-./0123456789:;<=>?@ABCDEFGHIJKLMNOPQRSTUVWXYZ[\\]^_`abcdefghijklmnopqrstuvwxyz{|}~")) (.umth (.var 0) "count" 0 2 (.cons (.int 0) (.cons (.bin .sub (.blt .len (.cons (.con (.str " !\"#$&'()*+,-./0123456789:;<=>?@ABCDEFGHIJKLMNOPQRSTUVWXYZ[\\]^_`abcdefghijklmnopqrstuvwxyz{|}~")) .nil)) (.int 1)) .nil))))) (.cons (.ite (.val (.cmp .notIn (.var 3) (.con (.str "abcdefghijklmnopqrstuvwxyz")))) (.cons (.raise 1 (.cons (.bin .sub (.fld (.var 0) "at") (.int 1)) .nil)) .nil) .nil) (.cons (.set (.one 1) (.bin .add (.var 1) (.var 3))) .nil)))
def b_read_method : Ss := (.cons (.set (.one 1) (.str "")) (.cons (.for (.one 2) .range (.cons (.umth (.var 0) "count" 0 2 (.cons (.int 1) (.cons (.con (.int 12)) .nil))) .nil) b_read_method_0) (.cons (.ret (.var 1)) .nil)))
def p_read_method : DefP := ⟨"read_method", none, top 42, ["reading", "name", "_", "sign"], ["reading"], b_read_method⟩
def b_read_message : Ss := (.cons (.set (.one 1) (.call 16 (.cons (.var 0) .nil))) (.cons (.set (.one 2) (.umth (.var 0) "reference" 0 12 .nil)) (.cons (.set (.one 3) (.umth (.var 0) "count" 0 2 (.cons (.int 1) (.cons (.con (.int 1000000000)) .nil)))) (.cons (.set (.one 4) (.call 17 (.cons (.var 0) .nil))) (.cons (.set (.one 5) (.blt .tuple (.cons (.comp [7] (.umth (.var 0) "value" 0 14 .nil) (.one 7) .range (.cons (.umth (.var 0) "count" 0 2 (.cons (.int 0) (.cons (.con (.int 4)) .nil))) .nil) .tt) .nil))) (.cons (.set (.one 6) (.blt .tuple (.cons (.comp [7] (.call 16 (.cons (.var 0) .nil)) (.one 7) .range (.cons (.umth (.var 0) "count" 0 2 (.cons (.int 0) (.cons (.con (.int 200)) .nil))) .nil) .tt) .nil))) (.cons (.ret (.tup (.cons (.var 1) (.cons (.var 2) (.cons (.var 3) (.cons (.var 4) (.cons (.var 5) (.cons (.var 6) .nil)))))))) .nil)))))))
def p_read_message : DefP := ⟨"read_message", none, top 43, ["reading", "send", "target", "place", "method", "arguments", "path", "_"], ["reading"], b_read_message⟩
def b_read_message_content : Ss := (.cons (.set (.one 1) (.call 18 (.cons (.var 0) .nil))) (.cons (.set (.one 2) (.call 15 (.cons (.var 0) .nil))) (.cons (.set (.one 3) (.umth (.var 0) "weight" 0 5 .nil)) (.cons (.set (.one 4) (.umth (.var 0) "count" 0 2 (.cons (.int 1) (.cons (.con (.int 1000000000)) .nil)))) (.cons (.ret (.tup (.cons (.str "message") (.cons (.var 1) (.cons (.var 2) (.cons (.var 3) (.cons (.var 4) (.cons (.call 11 (.cons (.var 0) (.cons (.ix (.var 1) (.int 4)) .nil))) .nil)))))))) .nil)))))
def p_read_message_content : DefP := ⟨"read_message_content", none, top 45, ["reading", "message", "target", "weight", "question"], ["reading"], b_read_message_content⟩
def b_read_content : Ss := (.cons (.ite (.val (.cmp .eq (.var 1) (.str "message"))) (.cons (.ret (.call 19 (.cons (.var 0) .nil))) .nil) .nil) (.cons (.ite (.val (.cmp .eq (.var 1) (.str "release"))) (.cons (.set (.one 2) (.umth (.var 0) "reference" 0 12 .nil)) (.cons (.ret (.tup (.cons (.var 1) (.cons (.var 2) (.cons (.umth (.var 0) "weight" 0 5 .nil) .nil))))) .nil)) .nil) (.cons (.ite (.val (.cmp .eq (.var 1) (.str "transfer"))) (.cons (.set (.one 3) (.umth (.var 0) "value" 0 14 .nil)) (.cons (.ret (.tup (.cons (.var 1) (.cons (.var 3) (.cons (.call 11 (.cons (.var 0) (.cons (.tup (.cons (.var 3) .nil)) .nil))) .nil))))) .nil)) .nil) (.cons (.set (.one 4) (.umth (.var 0) "count" 0 2 (.cons (.int 1) (.cons (.con (.int 1000000000)) .nil)))) (.cons (.ite (.val (.cmp .isIn (.var 1) (.tup (.cons (.str "fulfill") (.cons (.str "resolved") .nil))))) (.cons (.set (.one 3) (.umth (.var 0) "value" 0 14 .nil)) (.cons (.ret (.tup (.cons (.var 1) (.cons (.var 4) (.cons (.var 3) (.cons (.call 11 (.cons (.var 0) (.cons (.tup (.cons (.var 3) .nil)) .nil))) .nil)))))) .nil)) .nil) (.cons (.ite (.val (.cmp .isIn (.var 1) (.tup (.cons (.str "break") (.cons (.str "resolved_broken") .nil))))) (.cons (.ret (.tup (.cons (.var 1) (.cons (.var 4) (.cons (.umth (.var 0) "text" 0 6 (.cons (.con (.int 20)) .nil)) .nil))))) .nil) .nil) (.cons (.ret (.tup (.cons (.var 1) (.cons (.var 4) (.cons (.umth (.var 0) "weight" 0 5 .nil) .nil))))) .nil)))))))
def p_read_content : DefP := ⟨"read_content", none, top 46, ["reading", "kind", "reference", "value", "number"], ["reading", "kind"], b_read_content⟩
def b_read_packet : Ss := (.cons (.set (.one 1) (.make 0 3 (.cons (.var 0) .nil))) (.cons (.expr (.umth (.var 1) "count" 0 2 (.cons (.con (.int 1)) (.cons (.con (.int 1)) .nil)))) (.cons (.set (.one 2) (.umth (.var 1) "count" 0 2 (.cons (.int 1) (.cons (.con (.int 9)) .nil)))) (.cons (.set (.one 3) (.umth (.var 1) "count" 0 2 (.cons (.int 1) (.cons (.con (.int 9)) .nil)))) (.cons (.set (.one 4) (.umth (.var 1) "count" 0 2 (.cons (.int 1) (.cons (.con (.int 1000000000)) .nil)))) (.cons (.set (.one 5) (.call 20 (.cons (.var 1) (.cons (.ix (.con (.kt [(.str "message"), (.str "fulfill"), (.str "break"), (.str "subscribe"), (.str "resolved"), (.str "resolved_broken"), (.str "release"), (.str "release_answer"), (.str "transfer")])) (.umth (.var 1) "count" 0 2 (.cons (.int 0) (.cons (.bin .sub (.blt .len (.cons (.con (.kt [(.str "message"), (.str "fulfill"), (.str "break"), (.str "subscribe"), (.str "resolved"), (.str "resolved_broken"), (.str "release"), (.str "release_answer"), (.str "transfer")])) .nil)) (.int 1)) .nil)))) .nil)))) (.cons (.ite (.val (.cmp .ne (.fld (.var 1) "at") (.blt .len (.cons (.var 0) .nil)))) (.cons (.raise 1 (.cons (.fld (.var 1) "at") .nil)) .nil) .nil) (.cons (.ret (.tup (.cons (.var 2) (.cons (.var 3) (.cons (.var 4) (.cons (.var 5) .nil)))))) .nil))))))))
def p_read_packet : DefP := ⟨"read_packet", none, top 47, ["numbers", "reading", "sender", "receiver", "number", "content"], ["numbers"], b_read_packet⟩
def b_read_frame : Ss := (.cons (.ite (.or (.val (.cmp .eq (.blt .len (.cons (.var 0) .nil)) (.int 0))) (.val (.cmp .notIn (.ix (.var 0) (.int 0)) (.tup (.cons (.con (.int 1)) (.cons (.con (.int 2)) .nil)))))) (.cons (.raise 1 (.cons (.int 0) .nil)) .nil) .nil) (.cons (.ite (.val (.cmp .eq (.ix (.var 0) (.int 0)) (.con (.int 1)))) (.cons (.ret (.tup (.cons (.str "packet") (.cons (.call 21 (.cons (.var 0) .nil)) .nil)))) .nil) .nil) (.cons (.set (.one 1) (.make 0 3 (.cons (.var 0) .nil))) (.cons (.expr (.umth (.var 1) "count" 0 2 (.cons (.con (.int 2)) (.cons (.con (.int 2)) .nil)))) (.cons (.set (.one 2) (.umth (.var 1) "count" 0 2 (.cons (.int 1) (.cons (.con (.int 9)) .nil)))) (.cons (.set (.one 3) (.umth (.var 1) "count" 0 2 (.cons (.int 1) (.cons (.con (.int 9)) .nil)))) (.cons (.set (.one 4) (.umth (.var 1) "count" 0 2 (.cons (.int 0) (.cons (.con (.int 1000000000)) .nil)))) (.cons (.ite (.val (.cmp .ne (.fld (.var 1) "at") (.blt .len (.cons (.var 0) .nil)))) (.cons (.raise 1 (.cons (.fld (.var 1) "at") .nil)) .nil) .nil) (.cons (.ret (.tup (.cons (.str "acknowledgement") (.cons (.var 2) (.cons (.var 3) (.cons (.var 4) .nil)))))) .nil)))))))))
def p_read_frame : DefP := ⟨"read_frame", none, top 52, ["numbers", "reading", "sender", "receiver", "count"], ["numbers"], b_read_frame⟩
def b__law_read_0 : Ss := (.cons (.ret (.call 22 (.cons (.var 0) .nil))) .nil)
def b__law_read : Ss := (.cons (.tryE b__law_read_0 2 1 (.cons (.ite (.inst (.own 1)) (.cons (.ret (.tup (.cons (.str "malformed") (.cons (.fld "place") .nil)))) .nil) .nil) (.cons (.ret (.tup (.cons (.str "other") .nil))) .nil))) .nil)
def p__law_read : DefP := ⟨"_law_read", none, top 58, ["_law_numbers", "e"], ["_law_numbers"], b__law_read⟩
def b__law_count_0 : Ss := (.cons (.expr (.mth (.var 1) .append (.cons (.bin .add (.int 128) (.bin .mod (.blt .int (.cons (.var 0) .nil)) (.int 128))) .nil))) (.cons (.set (.one 0) (.bin .fdiv (.var 0) (.int 128))) .nil))
def b__law_count : Ss := (.cons (.set (.one 1) (.lst .nil)) (.cons (.wh (.val (.cmp .ge (.var 0) (.int 128))) b__law_count_0) (.cons (.ret (.bin .add (.var 1) (.lst (.cons (.var 0) .nil)))) .nil)))
def p__law_count : DefP := ⟨"_law_count", none, top 59, ["_law_number", "_law_digits_here"], ["_law_number"], b__law_count⟩
def b__law_draw : Ss := (.cons (.set (.one 2) (.ix (.var 0) (.int 1))) (.cons (.setIx (.var 0) (.int 1) (.bin .add (.var 2) (.int 1))) (.cons (.ite (.val (.cmp .lt (.var 2) (.blt .len (.cons (.ix (.var 0) (.int 0)) .nil)))) (.cons (.ret (.bin .mod (.blt .int (.cons (.ix (.ix (.var 0) (.int 0)) (.var 2)) .nil)) (.var 1))) .nil) .nil) (.cons (.ret (.bin .mod (.blt .int (.cons (.bin .add (.bin .mul (.var 2) (.int 7)) (.int 3)) .nil)) (.var 1))) .nil))))
def p__law_draw : DefP := ⟨"_law_draw", none, top 56, ["_law_box", "_law_many", "_law_at"], ["_law_box", "_law_many"], b__law_draw⟩
def b_write_count_0 : Ss := (.cons (.expr (.mth (.var 1) .append (.cons (.bin .add (.int 128) (.bin .mod (.var 0) (.int 128))) .nil))) (.cons (.set (.one 0) (.bin .fdiv (.var 0) (.int 128))) .nil))
def b_write_count : Ss := (.cons (.set (.one 1) (.lst .nil)) (.cons (.wh (.val (.cmp .ge (.var 0) (.int 128))) b_write_count_0) (.cons (.expr (.mth (.var 1) .append (.cons (.var 0) .nil))) (.cons (.ret (.var 1)) .nil))))
def p_write_count : DefP := ⟨"write_count", none, top 19, ["number", "digits"], ["number"], b_write_count⟩
def b_write_reference : Ss := (.cons (.ret (.bin .add (.bin .add (.lst (.cons (.cidx [(.str "object"), (.str "promise")] (.cons (.ix (.var 0) (.int 0)) .nil)) .nil)) (.call 26 (.cons (.ix (.var 0) (.int 1)) .nil))) (.call 26 (.cons (.ix (.var 0) (.int 2)) .nil)))) .nil)
def p_write_reference : DefP := ⟨"write_reference", none, top 22, ["reference"], ["reference"], b_write_reference⟩
def b_write_text_0 : Ss := (.cons (.expr (.mth (.var 1) .extend (.cons (.call 26 (.cons (.mth (.con (.str " !\"#$&'()*+,-./0123456789:;<=>?@ABCDEFGHIJKLMNOPQRSTUVWXYZ[\\]^_`abcdefghijklmnopqrstuvwxyz{|}~")) .index (.cons (.var 2) .nil)) .nil)) .nil))) .nil)
def b_write_text : Ss := (.cons (.set (.one 1) (.call 26 (.cons (.blt .len (.cons (.var 0) .nil)) .nil))) (.cons (.for (.one 2) .plain (.cons (.var 0) .nil) b_write_text_0) (.cons (.ret (.var 1)) .nil)))
def p_write_text : DefP := ⟨"write_text", none, top 20, ["text", "numbers", "sign"], ["text"], b_write_text⟩
def b_write_atom : Ss := (.cons (.ite (.val (.cmp .isIn (.var 0) (.con (.kt [(.tup [(.str "none")]), (.tup [(.str "bool"), (.bl false)]), (.tup [(.str "bool"), (.bl true)])])))) (.cons (.ret (.lst (.cons (.cidx [(.tup [(.str "none")]), (.tup [(.str "bool"), (.bl false)]), (.tup [(.str "bool"), (.bl true)])] (.cons (.var 0) .nil)) .nil))) .nil) .nil) (.cons (.ite (.val (.cmp .eq (.ix (.var 0) (.int 0)) (.str "int"))) (.cons (.ret (.bin .add (.lst (.cons (.int 3) .nil)) (.call 26 (.cons (.ite (.val (.cmp .ge (.ix (.var 0) (.int 1)) (.int 0))) (.bin .mul (.int 2) (.ix (.var 0) (.int 1))) (.bin .sub (.bin .mul (.un .neg (.int 2)) (.ix (.var 0) (.int 1))) (.int 1))) .nil)))) .nil) .nil) (.cons (.ite (.val (.cmp .eq (.ix (.var 0) (.int 0)) (.str "text"))) (.cons (.ret (.bin .add (.lst (.cons (.int 4) .nil)) (.call 28 (.cons (.ix (.var 0) (.int 1)) .nil)))) .nil) .nil) (.cons (.ret (.bin .add (.lst (.cons (.int 5) .nil)) (.call 27 (.cons (.var 0) .nil)))) .nil))))
def p_write_atom : DefP := ⟨"write_atom", none, top 23, ["atom"], ["atom"], b_write_atom⟩
def b_write_value_0 : Ss := (.cons (.expr (.mth (.var 1) .extend (.cons (.call 29 (.cons (.var 2) .nil)) .nil))) .nil)
def b_write_value : Ss := (.cons (.ite (.val (.cmp .ne (.ix (.var 0) (.int 0)) (.str "list"))) (.cons (.ret (.bin .add (.lst (.cons (.int 0) .nil)) (.call 29 (.cons (.var 0) .nil)))) .nil) .nil) (.cons (.set (.one 1) (.bin .add (.lst (.cons (.int 1) .nil)) (.call 26 (.cons (.blt .len (.cons (.ix (.var 0) (.int 1)) .nil)) .nil)))) (.cons (.for (.one 2) .plain (.cons (.ix (.var 0) (.int 1)) .nil) b_write_value_0) (.cons (.ret (.var 1)) .nil))))
def p_write_value : DefP := ⟨"write_value", none, top 24, ["value", "numbers", "atom"], ["value"], b_write_value⟩
def b_write_weight : Ss := (.cons (.ret (.bin .add (.call 26 (.cons (.ix (.var 0) (.int 0)) .nil)) (.call 26 (.cons (.ix (.var 0) (.int 1)) .nil)))) .nil)
def p_write_weight : DefP := ⟨"write_weight", none, top 21, ["weight"], ["weight"], b_write_weight⟩
def b_write_weights_0 : Ss := (.cons (.expr (.mth (.var 1) .extend (.cons (.call 31 (.cons (.var 2) .nil)) .nil))) .nil)
def b_write_weights : Ss := (.cons (.set (.one 1) (.call 26 (.cons (.blt .len (.cons (.var 0) .nil)) .nil))) (.cons (.for (.one 2) .plain (.cons (.var 0) .nil) b_write_weights_0) (.cons (.ret (.var 1)) .nil)))
def p_write_weights : DefP := ⟨"write_weights", none, top 35, ["weights", "numbers", "weight"], ["weights"], b_write_weights⟩
def b_write_send : Ss := (.cons (.ret (.bin .add (.call 26 (.cons (.ix (.var 0) (.int 0)) .nil)) (.call 26 (.cons (.ix (.var 0) (.int 1)) .nil)))) .nil)
def p_write_send : DefP := ⟨"write_send", none, top 34, ["send"], ["send"], b_write_send⟩
def b_write_message_0 : Ss := (.cons (.expr (.mth (.var 7) .extend (.cons (.call 33 (.cons (.var 9) .nil)) .nil))) .nil)
def b_write_message_1 : Ss := (.cons (.expr (.mth (.var 7) .extend (.cons (.call 30 (.cons (.var 8) .nil)) .nil))) .nil)
def b_write_message : Ss := (.cons (.set (.many [1, 2, 3, 4, 5, 6]) (.var 0)) (.cons (.set (.one 7) (.bin .add (.bin .add (.bin .add (.call 33 (.cons (.var 1) .nil)) (.call 27 (.cons (.var 2) .nil))) (.call 26 (.cons (.var 3) .nil))) (.call 28 (.cons (.var 4) .nil)))) (.cons (.expr (.mth (.var 7) .extend (.cons (.call 26 (.cons (.blt .len (.cons (.var 5) .nil)) .nil)) .nil))) (.cons (.for (.one 8) .plain (.cons (.var 5) .nil) b_write_message_1) (.cons (.expr (.mth (.var 7) .extend (.cons (.call 26 (.cons (.blt .len (.cons (.var 6) .nil)) .nil)) .nil))) (.cons (.for (.one 9) .plain (.cons (.var 6) .nil) b_write_message_0) (.cons (.ret (.var 7)) .nil)))))))
def p_write_message : DefP := ⟨"write_message", none, top 36, ["message", "send", "target", "place", "method", "arguments", "path", "numbers", "value", "passed"], ["message"], b_write_message⟩
def b_write_target_0 : Ss := (.cons (.expr (.mth (.var 1) .extend (.cons (.call 26 (.cons (.var 2) .nil)) .nil))) .nil)
def b_write_target : Ss := (.cons (.set (.one 1) (.lst (.cons (.cidx [(.str "object"), (.str "promise"), (.str "answer")] (.cons (.ix (.var 0) (.int 0)) .nil)) .nil))) (.cons (.for (.one 2) .plain (.cons (.sl (.var 0) (.int 1) .non) .nil) b_write_target_0) (.cons (.ret (.var 1)) .nil)))
def p_write_target : DefP := ⟨"write_target", none, top 37, ["target", "numbers", "number"], ["target"], b_write_target⟩
def b_write_content : Ss := (.cons (.set (.one 1) (.ix (.var 0) (.int 0))) (.cons (.ite (.val (.cmp .eq (.var 1) (.str "message"))) (.cons (.set (.many [2, 3, 4, 5, 6, 7]) (.var 0)) (.cons (.set (.one 8) (.bin .add (.bin .add (.call 34 (.cons (.var 3) .nil)) (.call 35 (.cons (.var 4) .nil))) (.call 31 (.cons (.var 5) .nil)))) (.cons (.ret (.bin .add (.bin .add (.var 8) (.call 26 (.cons (.var 6) .nil))) (.call 32 (.cons (.var 7) .nil)))) .nil))) .nil) (.cons (.ite (.val (.cmp .isIn (.var 1) (.tup (.cons (.str "fulfill") (.cons (.str "resolved") .nil))))) (.cons (.ret (.bin .add (.bin .add (.call 26 (.cons (.ix (.var 0) (.int 1)) .nil)) (.call 30 (.cons (.ix (.var 0) (.int 2)) .nil))) (.call 32 (.cons (.ix (.var 0) (.int 3)) .nil)))) .nil) .nil) (.cons (.ite (.val (.cmp .isIn (.var 1) (.tup (.cons (.str "break") (.cons (.str "resolved_broken") .nil))))) (.cons (.ret (.bin .add (.call 26 (.cons (.ix (.var 0) (.int 1)) .nil)) (.call 28 (.cons (.ix (.var 0) (.int 2)) .nil)))) .nil) .nil) (.cons (.ite (.val (.cmp .isIn (.var 1) (.tup (.cons (.str "subscribe") (.cons (.str "release_answer") .nil))))) (.cons (.ret (.bin .add (.call 26 (.cons (.ix (.var 0) (.int 1)) .nil)) (.call 31 (.cons (.ix (.var 0) (.int 2)) .nil)))) .nil) .nil) (.cons (.ite (.val (.cmp .eq (.var 1) (.str "release"))) (.cons (.ret (.bin .add (.call 27 (.cons (.ix (.var 0) (.int 1)) .nil)) (.call 31 (.cons (.ix (.var 0) (.int 2)) .nil)))) .nil) .nil) (.cons (.ret (.bin .add (.call 30 (.cons (.ix (.var 0) (.int 1)) .nil)) (.call 32 (.cons (.ix (.var 0) (.int 2)) .nil)))) .nil)))))))
def p_write_content : DefP := ⟨"write_content", none, top 38, ["content", "kind", "_", "message", "target", "weight", "question", "shares", "numbers"], ["content"], b_write_content⟩
def b_write_packet : Ss := (.cons (.set (.many [1, 2, 3, 4]) (.var 0)) (.cons (.set (.one 5) (.bin .add (.bin .add (.bin .add (.lst (.cons (.con (.int 1)) .nil)) (.call 26 (.cons (.var 1) .nil))) (.call 26 (.cons (.var 2) .nil))) (.call 26 (.cons (.var 3) .nil)))) (.cons (.ret (.bin .add (.bin .add (.var 5) (.lst (.cons (.cidx [(.str "message"), (.str "fulfill"), (.str "break"), (.str "subscribe"), (.str "resolved"), (.str "resolved_broken"), (.str "release"), (.str "release_answer"), (.str "transfer")] (.cons (.ix (.var 4) (.int 0)) .nil)) .nil))) (.call 36 (.cons (.var 4) .nil)))) .nil)))
def p_write_packet : DefP := ⟨"write_packet", none, top 39, ["packet", "sender", "receiver", "number", "content", "head"], ["packet"], b_write_packet⟩
def b_write_acknowledgement : Ss := (.cons (.ret (.bin .add (.bin .add (.bin .add (.lst (.cons (.con (.int 2)) .nil)) (.call 26 (.cons (.var 0) .nil))) (.call 26 (.cons (.var 1) .nil))) (.call 26 (.cons (.var 2) .nil)))) .nil)
def p_write_acknowledgement : DefP := ⟨"write_acknowledgement", none, top 51, ["sender", "receiver", "count"], ["sender", "receiver", "count"], b_write_acknowledgement⟩
def b__law_cell : Ss := (.cons (.ite (.val (.cmp .lt (.var 1) (.blt .len (.cons (.var 0) .nil)))) (.cons (.ret (.ix (.var 0) (.var 1))) .nil) .nil) (.cons (.ret (.int 0)) .nil))
def p__law_cell : DefP := ⟨"_law_cell", none, top 54, ["_law_script", "_law_k"], ["_law_script", "_law_k"], b__law_cell⟩
def b__law_digits_0 : Ss := (.cons (.ite (.val (.cmp .gt (.var 5) (.int 0))) (.cons (.expr (.mth (.var 3) .append (.cons (.bin .mod (.blt .int (.cons (.var 5) .nil)) (.int 1000)) .nil))) (.cons (.set (.one 5) (.bin .fdiv (.var 5) (.int 1000))) .nil)) .nil) .nil)
def b__law_digits_1 : Ss := (.cons (.set (.one 7) (.bin .mod (.blt .int (.cons (.bin .add (.bin .add (.bin .mul (.var 7) (.int 16807)) (.bin .mul (.int 7) (.var 6))) (.int 1)) .nil)) (.int 2147483647))) (.cons (.expr (.mth (.var 3) .append (.cons (.bin .mod (.blt .int (.cons (.bin .fdiv (.var 7) (.int 997)) .nil)) (.int 1000)) .nil))) .nil))
def b__law_digits_2 : Ss := (.cons (.set (.one 5) (.call 39 (.cons (.var 0) (.cons (.var 4) .nil)))) (.cons (.ite (.val (.cmp .lt (.var 5) (.int 0))) (.cons (.set (.one 5) (.bin .sub (.int 1) (.bin .mul (.int 2) (.var 5)))) .nil) .nil) (.cons (.ite (.val (.cmp .ge (.var 5) (.bin .pow (.int 10) (.int 18)))) (.cons (.for (.one 6) .range (.cons (.int 60) .nil) b__law_digits_0) .nil) (.cons (.set (.one 7) (.bin .mod (.blt .int (.cons (.bin .add (.bin .add (.bin .mul (.var 5) (.int 48271)) (.bin .mul (.var 4) (.int 69621))) (.int 11)) .nil)) (.int 2147483647))) (.cons (.for (.one 6) .range (.cons (.int 12) .nil) b__law_digits_1) .nil))) .nil)))
def b__law_digits : Ss := (.cons (.set (.one 3) (.lst .nil)) (.cons (.for (.one 4) .range (.cons (.var 1) (.cons (.var 2) .nil)) b__law_digits_2) (.cons (.ret (.var 3)) .nil)))
def p__law_digits : DefP := ⟨"_law_digits", none, top 55, ["_law_script", "_law_first", "_law_last", "_law_digits_here", "_law_k", "_law_cell_here", "_law_place", "_law_seed"], ["_law_script", "_law_first", "_law_last"], b__law_digits⟩
def b_law : Ss := (.cons (.set (.one 1) (.lst (.cons (.call 40 (.cons (.var 0) (.cons (.int 0) (.cons (.int 30) .nil)))) (.cons (.int 0) .nil)))) (.cons (.set (.one 2) (.bin .add (.int 1) (.call 25 (.cons (.var 1) (.cons (.int 9) .nil))))) (.cons (.set (.one 3) (.bin .add (.int 1) (.call 25 (.cons (.var 1) (.cons (.int 9) .nil))))) (.cons (.set (.one 4) (.bin .mul (.call 25 (.cons (.var 1) (.cons (.int 1000) .nil))) (.call 25 (.cons (.var 1) (.cons (.int 1000) .nil))))) (.cons (.set (.one 5) (.call 38 (.cons (.var 2) (.cons (.var 3) (.cons (.var 4) .nil))))) (.cons (.ite (.not (.val (.call 0 (.cons (.var 5) (.cons (.bin .add (.lst (.cons (.int 2) (.cons (.var 2) (.cons (.var 3) .nil)))) (.call 24 (.cons (.var 4) .nil))) .nil))))) (.cons (.ret (.bl false)) .nil) .nil) (.cons (.ite (.not (.val (.call 0 (.cons (.call 23 (.cons (.var 5) .nil)) (.cons (.tup (.cons (.str "acknowledgement") (.cons (.var 2) (.cons (.var 3) (.cons (.var 4) .nil))))) .nil))))) (.cons (.ret (.bl false)) .nil) .nil) (.cons (.set (.one 6) (.tup (.cons (.var 2) (.cons (.var 3) (.cons (.bin .add (.int 1) (.var 4)) (.cons (.tup (.cons (.str "break") (.cons (.bin .add (.int 1) (.call 25 (.cons (.var 1) (.cons (.int 900) .nil)))) (.cons (.str "no") .nil)))) .nil)))))) (.cons (.ite (.not (.val (.call 0 (.cons (.call 23 (.cons (.call 37 (.cons (.var 6) .nil)) .nil)) (.cons (.tup (.cons (.str "packet") (.cons (.var 6) .nil))) .nil))))) (.cons (.ret (.bl false)) .nil) .nil) (.cons (.set (.one 7) (.call 25 (.cons (.var 1) (.cons (.blt .len (.cons (.var 5) .nil)) .nil)))) (.cons (.ite (.not (.val (.call 0 (.cons (.call 23 (.cons (.sl (.var 5) .non (.var 7)) .nil)) (.cons (.tup (.cons (.str "malformed") (.cons (.var 7) .nil))) .nil))))) (.cons (.ret (.bl false)) .nil) .nil) (.cons (.ite (.not (.val (.call 0 (.cons (.call 23 (.cons (.bin .add (.var 5) (.lst (.cons (.call 25 (.cons (.var 1) (.cons (.int 200) .nil))) .nil))) .nil)) (.cons (.tup (.cons (.str "malformed") (.cons (.blt .len (.cons (.var 5) .nil)) .nil))) .nil))))) (.cons (.ret (.bl false)) .nil) .nil) (.cons (.set (.one 8) (.ix (.lst (.cons (.int 0) (.cons (.int 3) (.cons (.int 127) (.cons (.int 255) (.cons (.int 256) .nil)))))) (.call 25 (.cons (.var 1) (.cons (.int 5) .nil))))) (.cons (.ite (.not (.val (.call 0 (.cons (.call 23 (.cons (.bin .add (.lst (.cons (.var 8) .nil)) (.sl (.var 5) (.int 1) .non)) .nil)) (.cons (.tup (.cons (.str "malformed") (.cons (.int 0) .nil))) .nil))))) (.cons (.ret (.bl false)) .nil) .nil) (.cons (.ite (.or (.not (.val (.call 0 (.cons (.call 23 (.cons (.lst (.cons (.int 2) (.cons (.int 0) (.cons (.var 3) (.cons (.int 1) .nil))))) .nil)) (.cons (.tup (.cons (.str "malformed") (.cons (.int 1) .nil))) .nil))))) (.not (.val (.call 0 (.cons (.call 23 (.cons (.lst (.cons (.int 2) (.cons (.int 1) (.cons (.int 10) (.cons (.int 1) .nil))))) .nil)) (.cons (.tup (.cons (.str "malformed") (.cons (.int 2) .nil))) .nil)))))) (.cons (.ret (.bl false)) .nil) .nil) (.cons (.set (.one 9) (.call 24 (.cons (.bin .add (.bin .add (.bin .pow (.int 10) (.int 9)) (.int 1)) (.call 25 (.cons (.var 1) (.cons (.int 900) .nil)))) .nil))) (.cons (.ret (.call 0 (.cons (.call 23 (.cons (.bin .add (.lst (.cons (.int 2) (.cons (.var 2) (.cons (.var 3) .nil)))) (.var 9)) .nil)) (.cons (.tup (.cons (.str "malformed") (.cons (.bin .add (.int 2) (.blt .len (.cons (.var 9) .nil))) .nil))) .nil)))) .nil)))))))))))))))))
def p_law : DefP := ⟨"law", none, top 60, ["_law_script", "_law_box", "_law_sender", "_law_receiver", "_law_count_here", "_law_numbers", "_law_packet", "_law_cut", "_law_first", "_law_great"], ["_law_script"], b_law⟩
def md : Md := ⟨[p__law_same, p_Reading_digits, p_Reading_count, p_Reading___init__, p_Reading_big, p_Reading_weight, p_Reading_text, p_atoms, p_is_reference, p_references, p_distinct, p_read_weights, p_Reading_reference, p_Reading_atom, p_Reading_value, p_read_target, p_read_send, p_read_method, p_read_message, p_read_message_content, p_read_content, p_read_packet, p_read_frame, p__law_read, p__law_count, p__law_draw, p_write_count, p_write_reference, p_write_text, p_write_atom, p_write_value, p_write_weight, p_write_weights, p_write_send, p_write_message, p_write_target, p_write_content, p_write_packet, p_write_acknowledgement, p__law_cell, p__law_digits, p_law], [("ACKNOWLEDGEMENT_MARK", .con (.int 2)), ("ARGUMENTS_MOST", .con (.int 4)), ("BIG_DIGITS", .con (.int 2000)), ("CHARACTERS", .con (.str " !\"#$&'()*+,-./0123456789:;<=>?@ABCDEFGHIJKLMNOPQRSTUVWXYZ[\\]^_`abcdefghijklmnopqrstuvwxyz{|}~")), ("CONTENTS", .con (.kt [(.str "message"), (.str "fulfill"), (.str "break"), (.str "subscribe"), (.str "resolved"), (.str "resolved_broken"), (.str "release"), (.str "release_answer"), (.str "transfer")])), ("COUNT_DIGITS", .con (.int 5)), ("EXPONENT_MOST", .con (.int 10000)), ("KINDS", .con (.kt [(.str "object"), (.str "promise")])), ("LETTERS", .con (.str "abcdefghijklmnopqrstuvwxyz")), ("LIST_MOST", .con (.int 8)), ("NAME_MOST", .con (.int 12)), ("NUMBER_MOST", .con (.int 1000000000)), ("PACKET_MARK", .con (.int 1)), ("PATH_MOST", .con (.int 200)), ("PLAIN_ATOMS", .con (.kt [(.tup [(.str "none")]), (.tup [(.str "bool"), (.bl false)]), (.tup [(.str "bool"), (.bl true)])])), ("TARGETS", .con (.kt [(.str "object"), (.str "promise"), (.str "answer")])), ("TEXT_MOST", .con (.int 20)), ("VAT_MOST", .con (.int 9)), ("VERSION", .con (.int 1)), ("int", .blt), ("isinstance", .blt), ("len", .blt), ("range", .blt), ("repr", .blt), ("tuple", .blt), ("Malformed", .exc 1), ("VatError", .exc 2)], ["Reading"], [(0, "at"), (0, "numbers")], [], [⟨"Malformed", ["place"], [0, 1]⟩, ⟨"VatError", [], [1]⟩], PySem.Challenge.pw_vatlink_k52_frames_read.main.file⟩
-- places: _law_same=0 Reading.digits=1 Reading.count=2 Reading.__init__=3 Reading.big=4 Reading.weight=5 Reading.text=6 atoms=7 is_reference=8 references=9 distinct=10 read_weights=11 Reading.reference=12 Reading.atom=13 Reading.value=14 read_target=15 read_send=16 read_method=17 read_message=18 read_message_content=19 read_content=20 read_packet=21 read_frame=22 _law_read=23 _law_count=24 _law_draw=25 write_count=26 write_reference=27 write_text=28 write_atom=29 write_value=30 write_weight=31 write_weights=32 write_send=33 write_message=34 write_target=35 write_content=36 write_packet=37 write_acknowledgement=38 _law_cell=39 _law_digits=40 law=41
theorem sc__law_same : FnScope p__law_same.N p__law_same.ps (C8.fnScope p__law_same.st) := C8.fnScope_by (by decide +kernel)
theorem ir__law_same : cSs 200 ⟨p__law_same.N, C8.fnScope p__law_same.st, md.glk 0, true, false⟩ (C8.fnBody p__law_same.st) = some p__law_same.ir := by kernel_rfl
theorem bd__law_same : ∀ (kV doc pm : Value) (an : Option Addr) (cdv ct : Value) (us : List Value), us.length = p__law_same.ps.length → bindArgs (PySem.W.fnOf p__law_same.x (md.qual p__law_same) (C8.fnArgs p__law_same.st) (C8.fnBody p__law_same.st) (C8.fnScope p__law_same.st) .none kV doc pm an cdv ct) ⟨us, []⟩ = pure (p__law_same.ps.zip us) := fun _ _ _ _ _ _ us hl => match us, hl with | [_, _], _ => rfl
theorem sc_Reading_digits : FnScope p_Reading_digits.N p_Reading_digits.ps (C8.fnScope p_Reading_digits.st) := C8.fnScope_by (by decide +kernel)
theorem ir_Reading_digits : cSs 200 ⟨p_Reading_digits.N, C8.fnScope p_Reading_digits.st, md.glk 1, true, false⟩ (C8.fnBody p_Reading_digits.st) = some p_Reading_digits.ir := by kernel_rfl
theorem bd_Reading_digits : ∀ (kV doc pm : Value) (an : Option Addr) (cdv ct : Value) (us : List Value), us.length = p_Reading_digits.ps.length → bindArgs (PySem.W.fnOf p_Reading_digits.x (md.qual p_Reading_digits) (C8.fnArgs p_Reading_digits.st) (C8.fnBody p_Reading_digits.st) (C8.fnScope p_Reading_digits.st) .none kV doc pm an cdv ct) ⟨us, []⟩ = pure (p_Reading_digits.ps.zip us) := fun _ _ _ _ _ _ us hl => match us, hl with | [_, _], _ => rfl
theorem sc_Reading_count : FnScope p_Reading_count.N p_Reading_count.ps (C8.fnScope p_Reading_count.st) := C8.fnScope_by (by decide +kernel)
theorem ir_Reading_count : cSs 200 ⟨p_Reading_count.N, C8.fnScope p_Reading_count.st, md.glk 2, true, false⟩ (C8.fnBody p_Reading_count.st) = some p_Reading_count.ir := by kernel_rfl
theorem bd_Reading_count : ∀ (kV doc pm : Value) (an : Option Addr) (cdv ct : Value) (us : List Value), us.length = p_Reading_count.ps.length → bindArgs (PySem.W.fnOf p_Reading_count.x (md.qual p_Reading_count) (C8.fnArgs p_Reading_count.st) (C8.fnBody p_Reading_count.st) (C8.fnScope p_Reading_count.st) .none kV doc pm an cdv ct) ⟨us, []⟩ = pure (p_Reading_count.ps.zip us) := fun _ _ _ _ _ _ us hl => match us, hl with | [_, _, _], _ => rfl
theorem sc_Reading___init__ : FnScope p_Reading___init__.N p_Reading___init__.ps (C8.fnScope p_Reading___init__.st) := C8.fnScope_by (by decide +kernel)
theorem ir_Reading___init__ : cSs 200 ⟨p_Reading___init__.N, C8.fnScope p_Reading___init__.st, md.glk 3, true, false⟩ (C8.fnBody p_Reading___init__.st) = some p_Reading___init__.ir := by kernel_rfl
theorem bd_Reading___init__ : ∀ (kV doc pm : Value) (an : Option Addr) (cdv ct : Value) (us : List Value), us.length = p_Reading___init__.ps.length → bindArgs (PySem.W.fnOf p_Reading___init__.x (md.qual p_Reading___init__) (C8.fnArgs p_Reading___init__.st) (C8.fnBody p_Reading___init__.st) (C8.fnScope p_Reading___init__.st) .none kV doc pm an cdv ct) ⟨us, []⟩ = pure (p_Reading___init__.ps.zip us) := fun _ _ _ _ _ _ us hl => match us, hl with | [_, _], _ => rfl
theorem sc_Reading_big : FnScope p_Reading_big.N p_Reading_big.ps (C8.fnScope p_Reading_big.st) := C8.fnScope_by (by decide +kernel)
theorem ir_Reading_big : cSs 200 ⟨p_Reading_big.N, C8.fnScope p_Reading_big.st, md.glk 4, true, false⟩ (C8.fnBody p_Reading_big.st) = some p_Reading_big.ir := by kernel_rfl
theorem bd_Reading_big : ∀ (kV doc pm : Value) (an : Option Addr) (cdv ct : Value) (us : List Value), us.length = p_Reading_big.ps.length → bindArgs (PySem.W.fnOf p_Reading_big.x (md.qual p_Reading_big) (C8.fnArgs p_Reading_big.st) (C8.fnBody p_Reading_big.st) (C8.fnScope p_Reading_big.st) .none kV doc pm an cdv ct) ⟨us, []⟩ = pure (p_Reading_big.ps.zip us) := fun _ _ _ _ _ _ us hl => match us, hl with | [_], _ => rfl
theorem sc_Reading_weight : FnScope p_Reading_weight.N p_Reading_weight.ps (C8.fnScope p_Reading_weight.st) := C8.fnScope_by (by decide +kernel)
theorem ir_Reading_weight : cSs 200 ⟨p_Reading_weight.N, C8.fnScope p_Reading_weight.st, md.glk 5, true, false⟩ (C8.fnBody p_Reading_weight.st) = some p_Reading_weight.ir := by kernel_rfl
theorem bd_Reading_weight : ∀ (kV doc pm : Value) (an : Option Addr) (cdv ct : Value) (us : List Value), us.length = p_Reading_weight.ps.length → bindArgs (PySem.W.fnOf p_Reading_weight.x (md.qual p_Reading_weight) (C8.fnArgs p_Reading_weight.st) (C8.fnBody p_Reading_weight.st) (C8.fnScope p_Reading_weight.st) .none kV doc pm an cdv ct) ⟨us, []⟩ = pure (p_Reading_weight.ps.zip us) := fun _ _ _ _ _ _ us hl => match us, hl with | [_], _ => rfl
theorem sc_Reading_text : FnScope p_Reading_text.N p_Reading_text.ps (C8.fnScope p_Reading_text.st) := C8.fnScope_by (by decide +kernel)
theorem ir_Reading_text : cSs 200 ⟨p_Reading_text.N, C8.fnScope p_Reading_text.st, md.glk 6, true, false⟩ (C8.fnBody p_Reading_text.st) = some p_Reading_text.ir := by kernel_rfl
theorem bd_Reading_text : ∀ (kV doc pm : Value) (an : Option Addr) (cdv ct : Value) (us : List Value), us.length = p_Reading_text.ps.length → bindArgs (PySem.W.fnOf p_Reading_text.x (md.qual p_Reading_text) (C8.fnArgs p_Reading_text.st) (C8.fnBody p_Reading_text.st) (C8.fnScope p_Reading_text.st) .none kV doc pm an cdv ct) ⟨us, []⟩ = pure (p_Reading_text.ps.zip us) := fun _ _ _ _ _ _ us hl => match us, hl with | [_, _], _ => rfl
theorem sc_atoms : FnScope p_atoms.N p_atoms.ps (C8.fnScope p_atoms.st) := C8.fnScope_by (by decide +kernel)
theorem ir_atoms : cSs 200 ⟨p_atoms.N, C8.fnScope p_atoms.st, md.glk 7, true, false⟩ (C8.fnBody p_atoms.st) = some p_atoms.ir := by kernel_rfl
theorem bd_atoms : ∀ (kV doc pm : Value) (an : Option Addr) (cdv ct : Value) (us : List Value), us.length = p_atoms.ps.length → bindArgs (PySem.W.fnOf p_atoms.x (md.qual p_atoms) (C8.fnArgs p_atoms.st) (C8.fnBody p_atoms.st) (C8.fnScope p_atoms.st) .none kV doc pm an cdv ct) ⟨us, []⟩ = pure (p_atoms.ps.zip us) := fun _ _ _ _ _ _ us hl => match us, hl with | [_], _ => rfl
theorem sc_is_reference : FnScope p_is_reference.N p_is_reference.ps (C8.fnScope p_is_reference.st) := C8.fnScope_by (by decide +kernel)
theorem ir_is_reference : cSs 200 ⟨p_is_reference.N, C8.fnScope p_is_reference.st, md.glk 8, true, false⟩ (C8.fnBody p_is_reference.st) = some p_is_reference.ir := by kernel_rfl
theorem bd_is_reference : ∀ (kV doc pm : Value) (an : Option Addr) (cdv ct : Value) (us : List Value), us.length = p_is_reference.ps.length → bindArgs (PySem.W.fnOf p_is_reference.x (md.qual p_is_reference) (C8.fnArgs p_is_reference.st) (C8.fnBody p_is_reference.st) (C8.fnScope p_is_reference.st) .none kV doc pm an cdv ct) ⟨us, []⟩ = pure (p_is_reference.ps.zip us) := fun _ _ _ _ _ _ us hl => match us, hl with | [_], _ => rfl
theorem sc_references : FnScope p_references.N p_references.ps (C8.fnScope p_references.st) := C8.fnScope_by (by decide +kernel)
theorem ir_references : cSs 200 ⟨p_references.N, C8.fnScope p_references.st, md.glk 9, true, false⟩ (C8.fnBody p_references.st) = some p_references.ir := by kernel_rfl
theorem bd_references : ∀ (kV doc pm : Value) (an : Option Addr) (cdv ct : Value) (us : List Value), us.length = p_references.ps.length → bindArgs (PySem.W.fnOf p_references.x (md.qual p_references) (C8.fnArgs p_references.st) (C8.fnBody p_references.st) (C8.fnScope p_references.st) .none kV doc pm an cdv ct) ⟨us, []⟩ = pure (p_references.ps.zip us) := fun _ _ _ _ _ _ us hl => match us, hl with | [_], _ => rfl
theorem sc_distinct : FnScope p_distinct.N p_distinct.ps (C8.fnScope p_distinct.st) := C8.fnScope_by (by decide +kernel)
theorem ir_distinct : cSs 200 ⟨p_distinct.N, C8.fnScope p_distinct.st, md.glk 10, true, false⟩ (C8.fnBody p_distinct.st) = some p_distinct.ir := by kernel_rfl
theorem bd_distinct : ∀ (kV doc pm : Value) (an : Option Addr) (cdv ct : Value) (us : List Value), us.length = p_distinct.ps.length → bindArgs (PySem.W.fnOf p_distinct.x (md.qual p_distinct) (C8.fnArgs p_distinct.st) (C8.fnBody p_distinct.st) (C8.fnScope p_distinct.st) .none kV doc pm an cdv ct) ⟨us, []⟩ = pure (p_distinct.ps.zip us) := fun _ _ _ _ _ _ us hl => match us, hl with | [_], _ => rfl
theorem sc_read_weights : FnScope p_read_weights.N p_read_weights.ps (C8.fnScope p_read_weights.st) := C8.fnScope_by (by decide +kernel)
theorem ir_read_weights : cSs 200 ⟨p_read_weights.N, C8.fnScope p_read_weights.st, md.glk 11, true, false⟩ (C8.fnBody p_read_weights.st) = some p_read_weights.ir := by kernel_rfl
theorem bd_read_weights : ∀ (kV doc pm : Value) (an : Option Addr) (cdv ct : Value) (us : List Value), us.length = p_read_weights.ps.length → bindArgs (PySem.W.fnOf p_read_weights.x (md.qual p_read_weights) (C8.fnArgs p_read_weights.st) (C8.fnBody p_read_weights.st) (C8.fnScope p_read_weights.st) .none kV doc pm an cdv ct) ⟨us, []⟩ = pure (p_read_weights.ps.zip us) := fun _ _ _ _ _ _ us hl => match us, hl with | [_, _], _ => rfl
theorem sc_Reading_reference : FnScope p_Reading_reference.N p_Reading_reference.ps (C8.fnScope p_Reading_reference.st) := C8.fnScope_by (by decide +kernel)
theorem ir_Reading_reference : cSs 200 ⟨p_Reading_reference.N, C8.fnScope p_Reading_reference.st, md.glk 12, true, false⟩ (C8.fnBody p_Reading_reference.st) = some p_Reading_reference.ir := by kernel_rfl
theorem bd_Reading_reference : ∀ (kV doc pm : Value) (an : Option Addr) (cdv ct : Value) (us : List Value), us.length = p_Reading_reference.ps.length → bindArgs (PySem.W.fnOf p_Reading_reference.x (md.qual p_Reading_reference) (C8.fnArgs p_Reading_reference.st) (C8.fnBody p_Reading_reference.st) (C8.fnScope p_Reading_reference.st) .none kV doc pm an cdv ct) ⟨us, []⟩ = pure (p_Reading_reference.ps.zip us) := fun _ _ _ _ _ _ us hl => match us, hl with | [_], _ => rfl
theorem sc_Reading_atom : FnScope p_Reading_atom.N p_Reading_atom.ps (C8.fnScope p_Reading_atom.st) := C8.fnScope_by (by decide +kernel)
theorem ir_Reading_atom : cSs 200 ⟨p_Reading_atom.N, C8.fnScope p_Reading_atom.st, md.glk 13, true, false⟩ (C8.fnBody p_Reading_atom.st) = some p_Reading_atom.ir := by kernel_rfl
theorem bd_Reading_atom : ∀ (kV doc pm : Value) (an : Option Addr) (cdv ct : Value) (us : List Value), us.length = p_Reading_atom.ps.length → bindArgs (PySem.W.fnOf p_Reading_atom.x (md.qual p_Reading_atom) (C8.fnArgs p_Reading_atom.st) (C8.fnBody p_Reading_atom.st) (C8.fnScope p_Reading_atom.st) .none kV doc pm an cdv ct) ⟨us, []⟩ = pure (p_Reading_atom.ps.zip us) := fun _ _ _ _ _ _ us hl => match us, hl with | [_], _ => rfl
theorem sc_Reading_value : FnScope p_Reading_value.N p_Reading_value.ps (C8.fnScope p_Reading_value.st) := C8.fnScope_by (by decide +kernel)
theorem ir_Reading_value : cSs 200 ⟨p_Reading_value.N, C8.fnScope p_Reading_value.st, md.glk 14, true, false⟩ (C8.fnBody p_Reading_value.st) = some p_Reading_value.ir := by kernel_rfl
theorem bd_Reading_value : ∀ (kV doc pm : Value) (an : Option Addr) (cdv ct : Value) (us : List Value), us.length = p_Reading_value.ps.length → bindArgs (PySem.W.fnOf p_Reading_value.x (md.qual p_Reading_value) (C8.fnArgs p_Reading_value.st) (C8.fnBody p_Reading_value.st) (C8.fnScope p_Reading_value.st) .none kV doc pm an cdv ct) ⟨us, []⟩ = pure (p_Reading_value.ps.zip us) := fun _ _ _ _ _ _ us hl => match us, hl with | [_], _ => rfl
theorem sc_read_target : FnScope p_read_target.N p_read_target.ps (C8.fnScope p_read_target.st) := C8.fnScope_by (by decide +kernel)
theorem ir_read_target : cSs 200 ⟨p_read_target.N, C8.fnScope p_read_target.st, md.glk 15, true, false⟩ (C8.fnBody p_read_target.st) = some p_read_target.ir := by kernel_rfl
theorem bd_read_target : ∀ (kV doc pm : Value) (an : Option Addr) (cdv ct : Value) (us : List Value), us.length = p_read_target.ps.length → bindArgs (PySem.W.fnOf p_read_target.x (md.qual p_read_target) (C8.fnArgs p_read_target.st) (C8.fnBody p_read_target.st) (C8.fnScope p_read_target.st) .none kV doc pm an cdv ct) ⟨us, []⟩ = pure (p_read_target.ps.zip us) := fun _ _ _ _ _ _ us hl => match us, hl with | [_], _ => rfl
theorem sc_read_send : FnScope p_read_send.N p_read_send.ps (C8.fnScope p_read_send.st) := C8.fnScope_by (by decide +kernel)
theorem ir_read_send : cSs 200 ⟨p_read_send.N, C8.fnScope p_read_send.st, md.glk 16, true, false⟩ (C8.fnBody p_read_send.st) = some p_read_send.ir := by kernel_rfl
theorem bd_read_send : ∀ (kV doc pm : Value) (an : Option Addr) (cdv ct : Value) (us : List Value), us.length = p_read_send.ps.length → bindArgs (PySem.W.fnOf p_read_send.x (md.qual p_read_send) (C8.fnArgs p_read_send.st) (C8.fnBody p_read_send.st) (C8.fnScope p_read_send.st) .none kV doc pm an cdv ct) ⟨us, []⟩ = pure (p_read_send.ps.zip us) := fun _ _ _ _ _ _ us hl => match us, hl with | [_], _ => rfl
theorem sc_read_method : FnScope p_read_method.N p_read_method.ps (C8.fnScope p_read_method.st) := C8.fnScope_by (by decide +kernel)
theorem ir_read_method : cSs 200 ⟨p_read_method.N, C8.fnScope p_read_method.st, md.glk 17, true, false⟩ (C8.fnBody p_read_method.st) = some p_read_method.ir := by kernel_rfl
theorem bd_read_method : ∀ (kV doc pm : Value) (an : Option Addr) (cdv ct : Value) (us : List Value), us.length = p_read_method.ps.length → bindArgs (PySem.W.fnOf p_read_method.x (md.qual p_read_method) (C8.fnArgs p_read_method.st) (C8.fnBody p_read_method.st) (C8.fnScope p_read_method.st) .none kV doc pm an cdv ct) ⟨us, []⟩ = pure (p_read_method.ps.zip us) := fun _ _ _ _ _ _ us hl => match us, hl with | [_], _ => rfl
theorem sc_read_message : FnScope p_read_message.N p_read_message.ps (C8.fnScope p_read_message.st) := C8.fnScope_by (by decide +kernel)
theorem ir_read_message : cSs 200 ⟨p_read_message.N, C8.fnScope p_read_message.st, md.glk 18, true, false⟩ (C8.fnBody p_read_message.st) = some p_read_message.ir := by kernel_rfl
theorem bd_read_message : ∀ (kV doc pm : Value) (an : Option Addr) (cdv ct : Value) (us : List Value), us.length = p_read_message.ps.length → bindArgs (PySem.W.fnOf p_read_message.x (md.qual p_read_message) (C8.fnArgs p_read_message.st) (C8.fnBody p_read_message.st) (C8.fnScope p_read_message.st) .none kV doc pm an cdv ct) ⟨us, []⟩ = pure (p_read_message.ps.zip us) := fun _ _ _ _ _ _ us hl => match us, hl with | [_], _ => rfl
theorem sc_read_message_content : FnScope p_read_message_content.N p_read_message_content.ps (C8.fnScope p_read_message_content.st) := C8.fnScope_by (by decide +kernel)
theorem ir_read_message_content : cSs 200 ⟨p_read_message_content.N, C8.fnScope p_read_message_content.st, md.glk 19, true, false⟩ (C8.fnBody p_read_message_content.st) = some p_read_message_content.ir := by kernel_rfl
theorem bd_read_message_content : ∀ (kV doc pm : Value) (an : Option Addr) (cdv ct : Value) (us : List Value), us.length = p_read_message_content.ps.length → bindArgs (PySem.W.fnOf p_read_message_content.x (md.qual p_read_message_content) (C8.fnArgs p_read_message_content.st) (C8.fnBody p_read_message_content.st) (C8.fnScope p_read_message_content.st) .none kV doc pm an cdv ct) ⟨us, []⟩ = pure (p_read_message_content.ps.zip us) := fun _ _ _ _ _ _ us hl => match us, hl with | [_], _ => rfl
theorem sc_read_content : FnScope p_read_content.N p_read_content.ps (C8.fnScope p_read_content.st) := C8.fnScope_by (by decide +kernel)
theorem ir_read_content : cSs 200 ⟨p_read_content.N, C8.fnScope p_read_content.st, md.glk 20, true, false⟩ (C8.fnBody p_read_content.st) = some p_read_content.ir := by kernel_rfl
theorem bd_read_content : ∀ (kV doc pm : Value) (an : Option Addr) (cdv ct : Value) (us : List Value), us.length = p_read_content.ps.length → bindArgs (PySem.W.fnOf p_read_content.x (md.qual p_read_content) (C8.fnArgs p_read_content.st) (C8.fnBody p_read_content.st) (C8.fnScope p_read_content.st) .none kV doc pm an cdv ct) ⟨us, []⟩ = pure (p_read_content.ps.zip us) := fun _ _ _ _ _ _ us hl => match us, hl with | [_, _], _ => rfl
theorem sc_read_packet : FnScope p_read_packet.N p_read_packet.ps (C8.fnScope p_read_packet.st) := C8.fnScope_by (by decide +kernel)
theorem ir_read_packet : cSs 200 ⟨p_read_packet.N, C8.fnScope p_read_packet.st, md.glk 21, true, false⟩ (C8.fnBody p_read_packet.st) = some p_read_packet.ir := by kernel_rfl
theorem bd_read_packet : ∀ (kV doc pm : Value) (an : Option Addr) (cdv ct : Value) (us : List Value), us.length = p_read_packet.ps.length → bindArgs (PySem.W.fnOf p_read_packet.x (md.qual p_read_packet) (C8.fnArgs p_read_packet.st) (C8.fnBody p_read_packet.st) (C8.fnScope p_read_packet.st) .none kV doc pm an cdv ct) ⟨us, []⟩ = pure (p_read_packet.ps.zip us) := fun _ _ _ _ _ _ us hl => match us, hl with | [_], _ => rfl
theorem sc_read_frame : FnScope p_read_frame.N p_read_frame.ps (C8.fnScope p_read_frame.st) := C8.fnScope_by (by decide +kernel)
theorem ir_read_frame : cSs 200 ⟨p_read_frame.N, C8.fnScope p_read_frame.st, md.glk 22, true, false⟩ (C8.fnBody p_read_frame.st) = some p_read_frame.ir := by kernel_rfl
theorem bd_read_frame : ∀ (kV doc pm : Value) (an : Option Addr) (cdv ct : Value) (us : List Value), us.length = p_read_frame.ps.length → bindArgs (PySem.W.fnOf p_read_frame.x (md.qual p_read_frame) (C8.fnArgs p_read_frame.st) (C8.fnBody p_read_frame.st) (C8.fnScope p_read_frame.st) .none kV doc pm an cdv ct) ⟨us, []⟩ = pure (p_read_frame.ps.zip us) := fun _ _ _ _ _ _ us hl => match us, hl with | [_], _ => rfl
theorem sc__law_read : FnScope p__law_read.N p__law_read.ps (C8.fnScope p__law_read.st) := C8.fnScope_by (by decide +kernel)
theorem ir__law_read : cSs 200 ⟨p__law_read.N, C8.fnScope p__law_read.st, md.glk 23, true, false⟩ (C8.fnBody p__law_read.st) = some p__law_read.ir := by kernel_rfl
theorem bd__law_read : ∀ (kV doc pm : Value) (an : Option Addr) (cdv ct : Value) (us : List Value), us.length = p__law_read.ps.length → bindArgs (PySem.W.fnOf p__law_read.x (md.qual p__law_read) (C8.fnArgs p__law_read.st) (C8.fnBody p__law_read.st) (C8.fnScope p__law_read.st) .none kV doc pm an cdv ct) ⟨us, []⟩ = pure (p__law_read.ps.zip us) := fun _ _ _ _ _ _ us hl => match us, hl with | [_], _ => rfl
theorem sc__law_count : FnScope p__law_count.N p__law_count.ps (C8.fnScope p__law_count.st) := C8.fnScope_by (by decide +kernel)
theorem ir__law_count : cSs 200 ⟨p__law_count.N, C8.fnScope p__law_count.st, md.glk 24, true, false⟩ (C8.fnBody p__law_count.st) = some p__law_count.ir := by kernel_rfl
theorem bd__law_count : ∀ (kV doc pm : Value) (an : Option Addr) (cdv ct : Value) (us : List Value), us.length = p__law_count.ps.length → bindArgs (PySem.W.fnOf p__law_count.x (md.qual p__law_count) (C8.fnArgs p__law_count.st) (C8.fnBody p__law_count.st) (C8.fnScope p__law_count.st) .none kV doc pm an cdv ct) ⟨us, []⟩ = pure (p__law_count.ps.zip us) := fun _ _ _ _ _ _ us hl => match us, hl with | [_], _ => rfl
theorem sc__law_draw : FnScope p__law_draw.N p__law_draw.ps (C8.fnScope p__law_draw.st) := C8.fnScope_by (by decide +kernel)
theorem ir__law_draw : cSs 200 ⟨p__law_draw.N, C8.fnScope p__law_draw.st, md.glk 25, true, false⟩ (C8.fnBody p__law_draw.st) = some p__law_draw.ir := by kernel_rfl
theorem bd__law_draw : ∀ (kV doc pm : Value) (an : Option Addr) (cdv ct : Value) (us : List Value), us.length = p__law_draw.ps.length → bindArgs (PySem.W.fnOf p__law_draw.x (md.qual p__law_draw) (C8.fnArgs p__law_draw.st) (C8.fnBody p__law_draw.st) (C8.fnScope p__law_draw.st) .none kV doc pm an cdv ct) ⟨us, []⟩ = pure (p__law_draw.ps.zip us) := fun _ _ _ _ _ _ us hl => match us, hl with | [_, _], _ => rfl
theorem sc_write_count : FnScope p_write_count.N p_write_count.ps (C8.fnScope p_write_count.st) := C8.fnScope_by (by decide +kernel)
theorem ir_write_count : cSs 200 ⟨p_write_count.N, C8.fnScope p_write_count.st, md.glk 26, true, false⟩ (C8.fnBody p_write_count.st) = some p_write_count.ir := by kernel_rfl
theorem bd_write_count : ∀ (kV doc pm : Value) (an : Option Addr) (cdv ct : Value) (us : List Value), us.length = p_write_count.ps.length → bindArgs (PySem.W.fnOf p_write_count.x (md.qual p_write_count) (C8.fnArgs p_write_count.st) (C8.fnBody p_write_count.st) (C8.fnScope p_write_count.st) .none kV doc pm an cdv ct) ⟨us, []⟩ = pure (p_write_count.ps.zip us) := fun _ _ _ _ _ _ us hl => match us, hl with | [_], _ => rfl
theorem sc_write_reference : FnScope p_write_reference.N p_write_reference.ps (C8.fnScope p_write_reference.st) := C8.fnScope_by (by decide +kernel)
theorem ir_write_reference : cSs 200 ⟨p_write_reference.N, C8.fnScope p_write_reference.st, md.glk 27, true, false⟩ (C8.fnBody p_write_reference.st) = some p_write_reference.ir := by kernel_rfl
theorem bd_write_reference : ∀ (kV doc pm : Value) (an : Option Addr) (cdv ct : Value) (us : List Value), us.length = p_write_reference.ps.length → bindArgs (PySem.W.fnOf p_write_reference.x (md.qual p_write_reference) (C8.fnArgs p_write_reference.st) (C8.fnBody p_write_reference.st) (C8.fnScope p_write_reference.st) .none kV doc pm an cdv ct) ⟨us, []⟩ = pure (p_write_reference.ps.zip us) := fun _ _ _ _ _ _ us hl => match us, hl with | [_], _ => rfl
theorem sc_write_text : FnScope p_write_text.N p_write_text.ps (C8.fnScope p_write_text.st) := C8.fnScope_by (by decide +kernel)
theorem ir_write_text : cSs 200 ⟨p_write_text.N, C8.fnScope p_write_text.st, md.glk 28, true, false⟩ (C8.fnBody p_write_text.st) = some p_write_text.ir := by kernel_rfl
theorem bd_write_text : ∀ (kV doc pm : Value) (an : Option Addr) (cdv ct : Value) (us : List Value), us.length = p_write_text.ps.length → bindArgs (PySem.W.fnOf p_write_text.x (md.qual p_write_text) (C8.fnArgs p_write_text.st) (C8.fnBody p_write_text.st) (C8.fnScope p_write_text.st) .none kV doc pm an cdv ct) ⟨us, []⟩ = pure (p_write_text.ps.zip us) := fun _ _ _ _ _ _ us hl => match us, hl with | [_], _ => rfl
theorem sc_write_atom : FnScope p_write_atom.N p_write_atom.ps (C8.fnScope p_write_atom.st) := C8.fnScope_by (by decide +kernel)
theorem ir_write_atom : cSs 200 ⟨p_write_atom.N, C8.fnScope p_write_atom.st, md.glk 29, true, false⟩ (C8.fnBody p_write_atom.st) = some p_write_atom.ir := by kernel_rfl
theorem bd_write_atom : ∀ (kV doc pm : Value) (an : Option Addr) (cdv ct : Value) (us : List Value), us.length = p_write_atom.ps.length → bindArgs (PySem.W.fnOf p_write_atom.x (md.qual p_write_atom) (C8.fnArgs p_write_atom.st) (C8.fnBody p_write_atom.st) (C8.fnScope p_write_atom.st) .none kV doc pm an cdv ct) ⟨us, []⟩ = pure (p_write_atom.ps.zip us) := fun _ _ _ _ _ _ us hl => match us, hl with | [_], _ => rfl
theorem sc_write_value : FnScope p_write_value.N p_write_value.ps (C8.fnScope p_write_value.st) := C8.fnScope_by (by decide +kernel)
theorem ir_write_value : cSs 200 ⟨p_write_value.N, C8.fnScope p_write_value.st, md.glk 30, true, false⟩ (C8.fnBody p_write_value.st) = some p_write_value.ir := by kernel_rfl
theorem bd_write_value : ∀ (kV doc pm : Value) (an : Option Addr) (cdv ct : Value) (us : List Value), us.length = p_write_value.ps.length → bindArgs (PySem.W.fnOf p_write_value.x (md.qual p_write_value) (C8.fnArgs p_write_value.st) (C8.fnBody p_write_value.st) (C8.fnScope p_write_value.st) .none kV doc pm an cdv ct) ⟨us, []⟩ = pure (p_write_value.ps.zip us) := fun _ _ _ _ _ _ us hl => match us, hl with | [_], _ => rfl
theorem sc_write_weight : FnScope p_write_weight.N p_write_weight.ps (C8.fnScope p_write_weight.st) := C8.fnScope_by (by decide +kernel)
theorem ir_write_weight : cSs 200 ⟨p_write_weight.N, C8.fnScope p_write_weight.st, md.glk 31, true, false⟩ (C8.fnBody p_write_weight.st) = some p_write_weight.ir := by kernel_rfl
theorem bd_write_weight : ∀ (kV doc pm : Value) (an : Option Addr) (cdv ct : Value) (us : List Value), us.length = p_write_weight.ps.length → bindArgs (PySem.W.fnOf p_write_weight.x (md.qual p_write_weight) (C8.fnArgs p_write_weight.st) (C8.fnBody p_write_weight.st) (C8.fnScope p_write_weight.st) .none kV doc pm an cdv ct) ⟨us, []⟩ = pure (p_write_weight.ps.zip us) := fun _ _ _ _ _ _ us hl => match us, hl with | [_], _ => rfl
theorem sc_write_weights : FnScope p_write_weights.N p_write_weights.ps (C8.fnScope p_write_weights.st) := C8.fnScope_by (by decide +kernel)
theorem ir_write_weights : cSs 200 ⟨p_write_weights.N, C8.fnScope p_write_weights.st, md.glk 32, true, false⟩ (C8.fnBody p_write_weights.st) = some p_write_weights.ir := by kernel_rfl
theorem bd_write_weights : ∀ (kV doc pm : Value) (an : Option Addr) (cdv ct : Value) (us : List Value), us.length = p_write_weights.ps.length → bindArgs (PySem.W.fnOf p_write_weights.x (md.qual p_write_weights) (C8.fnArgs p_write_weights.st) (C8.fnBody p_write_weights.st) (C8.fnScope p_write_weights.st) .none kV doc pm an cdv ct) ⟨us, []⟩ = pure (p_write_weights.ps.zip us) := fun _ _ _ _ _ _ us hl => match us, hl with | [_], _ => rfl
theorem sc_write_send : FnScope p_write_send.N p_write_send.ps (C8.fnScope p_write_send.st) := C8.fnScope_by (by decide +kernel)
theorem ir_write_send : cSs 200 ⟨p_write_send.N, C8.fnScope p_write_send.st, md.glk 33, true, false⟩ (C8.fnBody p_write_send.st) = some p_write_send.ir := by kernel_rfl
theorem bd_write_send : ∀ (kV doc pm : Value) (an : Option Addr) (cdv ct : Value) (us : List Value), us.length = p_write_send.ps.length → bindArgs (PySem.W.fnOf p_write_send.x (md.qual p_write_send) (C8.fnArgs p_write_send.st) (C8.fnBody p_write_send.st) (C8.fnScope p_write_send.st) .none kV doc pm an cdv ct) ⟨us, []⟩ = pure (p_write_send.ps.zip us) := fun _ _ _ _ _ _ us hl => match us, hl with | [_], _ => rfl
theorem sc_write_message : FnScope p_write_message.N p_write_message.ps (C8.fnScope p_write_message.st) := C8.fnScope_by (by decide +kernel)
theorem ir_write_message : cSs 200 ⟨p_write_message.N, C8.fnScope p_write_message.st, md.glk 34, true, false⟩ (C8.fnBody p_write_message.st) = some p_write_message.ir := by kernel_rfl
theorem bd_write_message : ∀ (kV doc pm : Value) (an : Option Addr) (cdv ct : Value) (us : List Value), us.length = p_write_message.ps.length → bindArgs (PySem.W.fnOf p_write_message.x (md.qual p_write_message) (C8.fnArgs p_write_message.st) (C8.fnBody p_write_message.st) (C8.fnScope p_write_message.st) .none kV doc pm an cdv ct) ⟨us, []⟩ = pure (p_write_message.ps.zip us) := fun _ _ _ _ _ _ us hl => match us, hl with | [_], _ => rfl
theorem sc_write_target : FnScope p_write_target.N p_write_target.ps (C8.fnScope p_write_target.st) := C8.fnScope_by (by decide +kernel)
theorem ir_write_target : cSs 200 ⟨p_write_target.N, C8.fnScope p_write_target.st, md.glk 35, true, false⟩ (C8.fnBody p_write_target.st) = some p_write_target.ir := by kernel_rfl
theorem bd_write_target : ∀ (kV doc pm : Value) (an : Option Addr) (cdv ct : Value) (us : List Value), us.length = p_write_target.ps.length → bindArgs (PySem.W.fnOf p_write_target.x (md.qual p_write_target) (C8.fnArgs p_write_target.st) (C8.fnBody p_write_target.st) (C8.fnScope p_write_target.st) .none kV doc pm an cdv ct) ⟨us, []⟩ = pure (p_write_target.ps.zip us) := fun _ _ _ _ _ _ us hl => match us, hl with | [_], _ => rfl
theorem sc_write_content : FnScope p_write_content.N p_write_content.ps (C8.fnScope p_write_content.st) := C8.fnScope_by (by decide +kernel)
theorem ir_write_content : cSs 200 ⟨p_write_content.N, C8.fnScope p_write_content.st, md.glk 36, true, false⟩ (C8.fnBody p_write_content.st) = some p_write_content.ir := by kernel_rfl
theorem bd_write_content : ∀ (kV doc pm : Value) (an : Option Addr) (cdv ct : Value) (us : List Value), us.length = p_write_content.ps.length → bindArgs (PySem.W.fnOf p_write_content.x (md.qual p_write_content) (C8.fnArgs p_write_content.st) (C8.fnBody p_write_content.st) (C8.fnScope p_write_content.st) .none kV doc pm an cdv ct) ⟨us, []⟩ = pure (p_write_content.ps.zip us) := fun _ _ _ _ _ _ us hl => match us, hl with | [_], _ => rfl
theorem sc_write_packet : FnScope p_write_packet.N p_write_packet.ps (C8.fnScope p_write_packet.st) := C8.fnScope_by (by decide +kernel)
theorem ir_write_packet : cSs 200 ⟨p_write_packet.N, C8.fnScope p_write_packet.st, md.glk 37, true, false⟩ (C8.fnBody p_write_packet.st) = some p_write_packet.ir := by kernel_rfl
theorem bd_write_packet : ∀ (kV doc pm : Value) (an : Option Addr) (cdv ct : Value) (us : List Value), us.length = p_write_packet.ps.length → bindArgs (PySem.W.fnOf p_write_packet.x (md.qual p_write_packet) (C8.fnArgs p_write_packet.st) (C8.fnBody p_write_packet.st) (C8.fnScope p_write_packet.st) .none kV doc pm an cdv ct) ⟨us, []⟩ = pure (p_write_packet.ps.zip us) := fun _ _ _ _ _ _ us hl => match us, hl with | [_], _ => rfl
theorem sc_write_acknowledgement : FnScope p_write_acknowledgement.N p_write_acknowledgement.ps (C8.fnScope p_write_acknowledgement.st) := C8.fnScope_by (by decide +kernel)
theorem ir_write_acknowledgement : cSs 200 ⟨p_write_acknowledgement.N, C8.fnScope p_write_acknowledgement.st, md.glk 38, true, false⟩ (C8.fnBody p_write_acknowledgement.st) = some p_write_acknowledgement.ir := by kernel_rfl
theorem bd_write_acknowledgement : ∀ (kV doc pm : Value) (an : Option Addr) (cdv ct : Value) (us : List Value), us.length = p_write_acknowledgement.ps.length → bindArgs (PySem.W.fnOf p_write_acknowledgement.x (md.qual p_write_acknowledgement) (C8.fnArgs p_write_acknowledgement.st) (C8.fnBody p_write_acknowledgement.st) (C8.fnScope p_write_acknowledgement.st) .none kV doc pm an cdv ct) ⟨us, []⟩ = pure (p_write_acknowledgement.ps.zip us) := fun _ _ _ _ _ _ us hl => match us, hl with | [_, _, _], _ => rfl
theorem sc__law_cell : FnScope p__law_cell.N p__law_cell.ps (C8.fnScope p__law_cell.st) := C8.fnScope_by (by decide +kernel)
theorem ir__law_cell : cSs 200 ⟨p__law_cell.N, C8.fnScope p__law_cell.st, md.glk 39, true, false⟩ (C8.fnBody p__law_cell.st) = some p__law_cell.ir := by kernel_rfl
theorem bd__law_cell : ∀ (kV doc pm : Value) (an : Option Addr) (cdv ct : Value) (us : List Value), us.length = p__law_cell.ps.length → bindArgs (PySem.W.fnOf p__law_cell.x (md.qual p__law_cell) (C8.fnArgs p__law_cell.st) (C8.fnBody p__law_cell.st) (C8.fnScope p__law_cell.st) .none kV doc pm an cdv ct) ⟨us, []⟩ = pure (p__law_cell.ps.zip us) := fun _ _ _ _ _ _ us hl => match us, hl with | [_, _], _ => rfl
theorem sc__law_digits : FnScope p__law_digits.N p__law_digits.ps (C8.fnScope p__law_digits.st) := C8.fnScope_by (by decide +kernel)
theorem ir__law_digits : cSs 200 ⟨p__law_digits.N, C8.fnScope p__law_digits.st, md.glk 40, true, false⟩ (C8.fnBody p__law_digits.st) = some p__law_digits.ir := by kernel_rfl
theorem bd__law_digits : ∀ (kV doc pm : Value) (an : Option Addr) (cdv ct : Value) (us : List Value), us.length = p__law_digits.ps.length → bindArgs (PySem.W.fnOf p__law_digits.x (md.qual p__law_digits) (C8.fnArgs p__law_digits.st) (C8.fnBody p__law_digits.st) (C8.fnScope p__law_digits.st) .none kV doc pm an cdv ct) ⟨us, []⟩ = pure (p__law_digits.ps.zip us) := fun _ _ _ _ _ _ us hl => match us, hl with | [_, _, _], _ => rfl
theorem sc_law : FnScope p_law.N p_law.ps (C8.fnScope p_law.st) := C8.fnScope_by (by decide +kernel)
theorem ir_law : cSs 200 ⟨p_law.N, C8.fnScope p_law.st, md.glk 41, true, false⟩ (C8.fnBody p_law.st) = some p_law.ir := by kernel_rfl
theorem bd_law : ∀ (kV doc pm : Value) (an : Option Addr) (cdv ct : Value) (us : List Value), us.length = p_law.ps.length → bindArgs (PySem.W.fnOf p_law.x (md.qual p_law) (C8.fnArgs p_law.st) (C8.fnBody p_law.st) (C8.fnScope p_law.st) .none kV doc pm an cdv ct) ⟨us, []⟩ = pure (p_law.ps.zip us) := fun _ _ _ _ _ _ us hl => match us, hl with | [_], _ => rfl
end K52
end
section
set_option Elab.async false
set_option linter.all false
set_option maxRecDepth 100000
set_option maxHeartbeats 0
namespace K52
open PySem L2 PyProof.Rows PySem.Spec L3
abbrev R : PySem.W.OpenRow := PySem.W.OpenLaw.row PySem.Challenge.rw_vatlink_k52_frames_read
def loose : List Str := "CHARACTERS" :: "NUMBER_MOST" :: "TEXT_MOST" :: "LIST_MOST" :: "VAT_MOST" :: "COUNT_DIGITS" :: "BIG_DIGITS" :: "EXPONENT_MOST" :: "KINDS" :: "PLAIN_ATOMS" :: "NAME_MOST" :: "LETTERS" :: "VERSION" :: "ARGUMENTS_MOST" :: "PATH_MOST" :: "CONTENTS" :: "TARGETS" :: "PACKET_MARK" :: "ACKNOWLEDGEMENT_MARK" :: "VatError" :: "Malformed" :: "is_reference" :: "atoms" :: "references" :: "distinct" :: "write_count" :: "write_text" :: "write_weight" :: "write_reference" :: "write_atom" :: "write_value" :: "Reading" :: "write_send" :: "write_weights" :: "write_message" :: "write_target" :: "write_content" :: "write_packet" :: "read_send" :: "read_weights" :: "read_method" :: "read_message" :: "read_target" :: "read_message_content" :: "read_content" :: "read_packet" :: "write_acknowledgement" :: "read_frame" :: "_law_cell" :: "_law_digits" :: "_law_draw" :: "_law_same" :: "_law_read" :: "_law_count" :: []
theorem run (w : World) : HandSHeadRun.RunEq R (PySem.W.view R.prog [60]) (hookOf md) (obOf md) 4000 loose w := by
  intro os
  kernel_rfl
end K52
end
section
set_option autoImplicit false
set_option linter.all false
set_option maxRecDepth 100000
/-! L3: facts for the readings: loops by an invariant, text of data -/
namespace L3
open PySem

section
variable {t : Tg} {G : Mp → Prop} {K : Ends}
/-- a for loop by what holds ahead of each turn -/
theorem forL_inv {body : Ends → Lo → Mp → Prop} {xs : List D} {σ : Lo} {M : Mp} (I : Nat → Lo → Mp → Prop) (h0 : I 0 σ M)
    (step : ∀ (i : Nat) (x : D) (σ : Lo) (M : Mp) (nx : Lo → Mp → Prop), xs[i]? = some x → I i σ M → (∀ σ' M', I (i + 1) σ' M' → nx σ' M') → G M ∧ wpTg t x σ M fun σ1 => body ⟨nx, K.rt, K.nx, nx⟩ σ1 M)
    (done : ∀ σ M, I xs.length σ M → G M ∧ K.nx σ M) : forL t body G K xs σ M := by
  have go : ∀ (l : List D) (i : Nat) (σ : Lo) (M : Mp), xs.drop i = l → i ≤ xs.length → I i σ M → forL t body G K l σ M := by
    intro l
    induction l with
    | nil =>
      intro i σ M e hi h
      have : xs.length ≤ i := List.drop_eq_nil_iff.mp e
      have e2 : i = xs.length := by omega
      subst e2
      exact done σ M h
    | cons x l ih =>
      intro i σ M e hi h
      have hx : xs[i]? = some x := by
        have := congrArg List.head? e
        rw [List.head?_drop] at this
        exact this
      have hl : xs.drop (i + 1) = l := by
        have := congrArg List.tail e
        rw [List.tail_drop] at this
        exact this
      have hlt : i < xs.length := (List.getElem?_eq_some_iff.mp hx).1
      exact step i x σ M _ hx h fun σ' M' h' => ih (i + 1) σ' M' hl hlt h'
  exact go xs 0 σ M rfl (Nat.zero_le _) h0
/-- a while loop by a measure -/
theorem whL_inv {c : Lo → Mp → (Bool → Mp → Prop) → Prop} {body : Ends → Lo → Mp → Prop} {σ : Lo} {M : Mp} (I : Nat → Lo → Mp → Prop) (n : Nat) (h0 : I n σ M)
    (step : ∀ (n : Nat) (σ : Lo) (M : Mp) (nx : Lo → Mp → Prop), I n σ M → (∀ m σ' M', m < n → I m σ' M' → nx σ' M') → c σ M fun b M1 => if b = true then body ⟨nx, K.rt, K.nx, nx⟩ σ M1 else K.nx σ M1) : ∃ n, whL c body K n σ M := by
  have go : ∀ (f n : Nat) (σ : Lo) (M : Mp), n < f → I n σ M → whL c body K f σ M := by
    intro f
    induction f with
    | zero => intro n σ M h; omega
    | succ f ih => intro n σ M h hI; exact step n σ M _ hI fun m σ' M' hm h' => ih m σ' M' (by omega) h'
  exact ⟨n + 1, go (n + 1) n σ M (by omega) h0⟩
theorem whL_any {c : Lo → Mp → (Bool → Mp → Prop) → Prop} {body : Ends → Lo → Mp → Prop} {σ : Lo} {M : Mp} (h : ∃ n, whL c body K n σ M) : ∃ n, whL c body K n σ M := h
end
theorem dRange_get' {lo hi : Int} {i : Nat} {d : D} (h : (dRange lo hi)[i]? = some d) : i < (hi - lo).toNat ∧ d = .int (lo + (i : Int)) := by
  unfold dRange at h
  rw [List.getElem?_map] at h
  by_cases hi' : i < (hi - lo).toNat
  · rw [List.getElem?_range hi'] at h
    cases h
    exact ⟨hi', rfl⟩
  · rw [List.getElem?_eq_none (by simp; omega)] at h
    cases h
theorem dRange_len {lo hi : Int} : (dRange lo hi).length = (hi - lo).toNat := by simp [dRange]
theorem mset_mset {M : Mp} {a : Addr} {o p : MO} : mset (mset M a o) a p = mset M a p := by
  funext b
  by_cases h : b = a
  · subst h; rw [mset_same, mset_same]
  · rw [mset_ne h, mset_ne h, mset_ne h]
theorem eqv_refl (d : D) : d.eqv d = true := by
  have : ∀ k : NestedKey, NestedKey.beq k k = true := fun k => NestedKey.beq_self k
  exact this d.key
theorem eqv_int (i j : Int) : (D.int i).eqv (.int j) = decide (i = j) := by
  show NestedKey.beq (.num i) (.num j) = _
  simp [NestedKey.beq]
theorem wpEq_int {i j : Int} {M : Mp} {k : Bool → Prop} : wpEq (.int i) (.int j) M k ↔ k (decide (i = j)) := by
  show (_ ∧ k ((D.int i).eqv (.int j))) ↔ _
  rw [eqv_int]
  exact ⟨fun h => h.2, fun h => ⟨⟨rfl, rfl⟩, h⟩⟩
theorem wpEq_same {x : D} {M : Mp} {k : Bool → Prop} (hx : ∀ a, x ≠ .ref a) (hf : x.flat = true) (h : k true) : wpEq x x M k := by
  have e := eqv_refl x
  cases x with
  | ref a => exact absurd rfl (hx a)
  | _ => exact ⟨⟨hf, hf⟩, by rw [e]; exact h⟩
section
variable {P : Pr} {M : Mp} {Q : Post} {k : Bool → Prop} {i j : Int} {x y : Str} {b c : Bool} {d e : D} {ds es : List D} {σ : Lo} {kl : Lo → Prop} {R : ItR}
theorem w_add : wpBin .add (.int i) (.int j) M Q ↔ Q (.int (i + j)) M := Iff.rfl
theorem w_addS : wpBin .add (.str x) (.str y) M Q ↔ x.length + y.length ≤ sizeLine ∧ Q (.str (x ++ y)) M := Iff.rfl
theorem w_addT : wpBin .add (.tup ds) (.tup es) M Q ↔ ds.length + es.length ≤ sizeLine ∧ Q (.tup (ds ++ es)) M := Iff.rfl
theorem w_sub : wpBin .sub (.int i) (.int j) M Q ↔ Q (.int (i - j)) M := Iff.rfl
theorem w_mul : wpBin .mul (.int i) (.int j) M Q ↔ MulOk i j ∧ Q (.int (i * j)) M := Iff.rfl
theorem w_fdiv : wpBin .fdiv (.int i) (.int j) M Q ↔ (0 < j ∧ j < 1073741824) ∧ Q (.int (i / j)) M := Iff.rfl
theorem w_mod : wpBin .mod (.int i) (.int j) M Q ↔ 0 < j ∧ Q (.int (i % j)) M := Iff.rfl
theorem w_pow : wpBin .pow (.int i) (.int j) M Q ↔ (0 ≤ j ∧ j ≤ 1000000 ∧ i.natAbs < 2 ^ 64) ∧ Q (.int (i ^ j.toNat)) M := Iff.rfl
theorem w_iadd : wpInp .add (.int i) (.int j) M Q ↔ Q (.int (i + j)) M := Iff.rfl
theorem w_isub : wpInp .sub (.int i) (.int j) M Q ↔ Q (.int (i - j)) M := Iff.rfl
theorem w_neg : wpUn .neg (.int i) M Q ↔ Q (.int (-i)) M := Iff.rfl
theorem w_lt : wpCmp .lt (.int i) (.int j) M k ↔ k (decide (i < j)) := Iff.rfl
theorem w_le : wpCmp .le (.int i) (.int j) M k ↔ k (decide (i ≤ j)) := Iff.rfl
theorem w_gt : wpCmp .gt (.int i) (.int j) M k ↔ k (decide (j < i)) := Iff.rfl
theorem w_ge : wpCmp .ge (.int i) (.int j) M k ↔ k (decide (j ≤ i)) := Iff.rfl
theorem w_eq : wpCmp .eq (.int i) (.int j) M k ↔ k (decide (i = j)) := wpEq_int (M := M)
theorem w_ne : wpCmp .ne (.int i) (.int j) M k ↔ k (!decide (i = j)) := wpEq_int (M := M) (k := fun b => k (!b))
theorem w_in : wpCmp .isIn d e M k ↔ wpIn d e M k := Iff.rfl
theorem w_nin : wpCmp .notIn d e M k ↔ wpIn d e M fun b => k (!b) := Iff.rfl
theorem w_tb : truthy (.bl b) M k ↔ k b := Iff.rfl
theorem w_ti : truthy (.int i) M k ↔ k (i != 0) := Iff.rfl
theorem w_tt : truthy (.tup ds) M k ↔ k (!ds.isEmpty) := Iff.rfl
theorem w_ix0 : wpIx (.tup (d :: ds)) (.int 0) M Q ↔ Q d M := by
  show (∃ c, atD (d :: ds) 0 = some c ∧ Q c M) ↔ _
  simp [atD]
theorem w_ix1 {a : D} : wpIx (.tup (a :: d :: ds)) (.int 1) M Q ↔ Q d M := by
  show (∃ c, atD (a :: d :: ds) 1 = some c ∧ Q c M) ↔ _
  simp [atD]
theorem w_ix2 {a a' : D} : wpIx (.tup (a :: a' :: d :: ds)) (.int 2) M Q ↔ Q d M := by
  show (∃ c, atD (a :: a' :: d :: ds) 2 = some c ∧ Q c M) ↔ _
  simp [atD]
theorem w_lenT : wpBlt .len [.tup ds] M Q ↔ Q (.int ds.length) M := Iff.rfl
theorem w_lenK : wpBlt .len [.kl ds] M Q ↔ Q (.int ds.length) M := Iff.rfl
theorem w_int : wpBlt .int [.int i] M Q ↔ Q (.int i) M := Iff.rfl
theorem w_max : wpBlt .max [.int i, .int j] M Q ↔ Q (.int (if j > i then j else i)) M := Iff.rfl
theorem w_min : wpBlt .min [.int i, .int j] M Q ↔ Q (.int (if j < i then j else i)) M := Iff.rfl
theorem w_repr : wpBlt .repr [d] M Q ↔ ∃ p, Deep M d p ∧ p.showable = true ∧ p.shown.length ≤ sizeLine ∧ p.depth ≤ 40 ∧ Q (.str p.shown) M := Iff.rfl
theorem w_rng1 : wpIt .range [.int i] M R ↔ small62 i ∧ R (dRange 0 i) (fun _ => True) M id := Iff.rfl
theorem w_rng2 : wpIt .range [.int i, .int j] M R ↔ (small62 i ∧ small62 j) ∧ R (dRange i j) (fun _ => True) M id := Iff.rfl
theorem w_one {n : Nat} : wpTg (.one n) d σ M kl ↔ kl (σ.set n (some d)) := Iff.rfl
theorem w_ixL {a : Addr} {ds : List D} (h : M a = some (.lst ds)) : wpIx (.ref a) (.int i) M Q ↔ ∃ d, atD ds i = some d ∧ Q d M := by
  simp only [wpIx, h]
theorem w_ixK : wpIx (.kl ds) (.int i) M Q ↔ ∃ d, atD ds i = some d ∧ Q d M := Iff.rfl
theorem w_lenL {a : Addr} {ds : List D} (h : M a = some (.lst ds)) : wpBlt .len [.ref a] M Q ↔ Q (.int ds.length) M := by
  simp only [wpBlt, h]
theorem w_app {a : Addr} {ds : List D} (h : M a = some (.lst ds)) : wpMth .append (.ref a) [d] M Q ↔ ds.length < sizeLine ∧ Q .non (mset M a (.lst (ds ++ [d]))) := by
  simp only [wpMth, h]
theorem w_rcvL {a : Addr} {ds : List D} (h : M a = some (.lst ds)) : rcv (.ref a) M = some .lst := by
  simp only [rcv, h]
theorem w_set {a : Addr} {ds : List D} {v : D} {km : Mp → Prop} (h : M a = some (.lst ds)) : wpSetIx (.ref a) (.int i) v M km ↔ (0 ≤ i ∧ i < ds.length) ∧ km (mset M a (.lst (ds.set i.toNat v))) := by
  simp only [wpSetIx, h]
theorem w_rev {a : Addr} {ds : List D} (h : M a = some (.lst ds)) : wpIt .reversed [.ref a] M R ↔ R ds.reverse (fun M' => M' a = some (.lst ds)) M id := by
  simp only [wpIt, h]
theorem w_itL {a : Addr} {ds : List D} (h : M a = some (.lst ds)) : wpIt .plain [.ref a] M R ↔ R ds (fun M' => M' a = some (.lst ds)) M id := by
  simp only [wpIt, h]
theorem w_fld {a : Addr} {c : Nat} {fs : List (Str × D)} {f : Str} (h : M a = some (.ins c fs)) : wpFld P (.ref a) f M Q ↔ P.fl c f = true ∧ ∃ v, fs.lookup f = some v ∧ Q v M := by
  simp only [wpFld, h]
theorem w_setFld {a : Addr} {c : Nat} {fs : List (Str × D)} {f : Str} {v : D} {km : Mp → Prop} (h : M a = some (.ins c fs)) : wpSetFld P (.ref a) f v M km ↔ (P.fl c f = true ∧ fs.length < 900) ∧ km (mset M a (.ins c (putFd f v fs))) := by
  simp only [wpSetFld, h]
theorem w_ixD {a : Addr} {kvs : List (D × D)} {y : D} (h : M a = some (.dct kvs)) : wpIx (.ref a) y M Q ↔ y.hk1 = true ∧ ∃ d, dget kvs y = some d ∧ Q d M := by
  cases y <;> simp only [wpIx, h]
theorem w_ixLk {a : Addr} {kvs : List (D × D)} {y : D} (h : M a = some (.lck kvs)) : wpIx (.ref a) y M Q ↔ y.hk1 = true ∧ ∃ d, dget kvs y = some d ∧ Q d M := by
  cases y <;> simp only [wpIx, h]
theorem w_inD {a : Addr} {kvs : List (D × D)} {y : D} (h : M a = some (.dct kvs)) : wpIn y (.ref a) M k ↔ y.hk1 = true ∧ k (dhas kvs y) := by
  simp only [wpIn, h]
theorem w_inL {a : Addr} {ds : List D} {y : D} (h : M a = some (.lst ds)) : wpIn y (.ref a) M k ↔ (y.flat = true ∧ ∀ d ∈ ds, d.flat = true) ∧ k (ds.any fun z => z.eqv y) := by
  simp only [wpIn, h]
theorem w_setD {a : Addr} {kvs : List (D × D)} {y v : D} {km : Mp → Prop} (h : M a = some (.dct kvs)) : wpSetIx (.ref a) y v M km ↔ (y.hk1 = true ∧ kvs.length < sizeLine) ∧ km (mset M a (.dct (dput kvs y v))) := by
  cases y <;> simp only [wpSetIx, h]
theorem w_itD {a : Addr} {kvs : List (D × D)} (h : M a = some (.dct kvs)) : wpIt .plain [.ref a] M R ↔ wpItD (·.map (·.1)) a kvs M R := by
  simp only [wpIt, h]
theorem w_itI {a : Addr} {kvs : List (D × D)} (h : M a = some (.dct kvs)) : wpIt .items [.ref a] M R ↔ wpItD (·.map fun p => .tup [p.1, p.2]) a kvs M R := by
  simp only [wpIt, h]
theorem w_addL {a b : Addr} {ds es : List D} (h : M a = some (.lst ds)) (h2 : M b = some (.lst es)) : wpBin .add (.ref a) (.ref b) M Q ↔ ds.length + es.length ≤ sizeLine ∧ wpNew M (.lst (ds ++ es)) Q := by
  simp only [wpBin, h, h2]
theorem w_ext {a b : Addr} {ds es : List D} (h : M a = some (.lst ds)) (h2 : M b = some (.lst es)) : wpMth .extend (.ref a) [.ref b] M Q ↔ ds.length + es.length ≤ sizeLine ∧ Q .non (mset M a (.lst (ds ++ es))) := by
  simp only [wpMth, h, wpExt, h2]
theorem w_itS {z : Str} : wpIt .plain [.str z] M R ↔ z.length ≤ sizeLine ∧ R (z.cps.toList.map fun c => .str ⟨#[c]⟩) (fun _ => True) M id := Iff.rfl
theorem w_lenS : wpBlt .len [.str x] M Q ↔ x.length ≤ sizeLine ∧ Q (.int x.length) M := Iff.rfl
theorem w_many {l : List Nat} : wpTg (.many l) (.tup ds) σ M kl ↔ ∃ σ', setMany l ds σ = some σ' ∧ kl σ' := Iff.rfl
theorem eqv_str : (D.str x).eqv (.str y) = decide (x = y) := by
  show NestedKey.beq (.text x) (.text y) = _
  simp [NestedKey.beq]
theorem w_eqS : wpCmp .eq (.str x) (.str y) M k ↔ k (decide (x = y)) := by
  show (_ ∧ k ((D.str x).eqv (.str y))) ↔ _
  rw [eqv_str]
  exact ⟨fun h => h.2, fun h => ⟨⟨rfl, rfl⟩, h⟩⟩
end
/-- as text -/
def Told (p : PyData) : Prop := p.showable = true ∧ p.shown.length ≤ sizeLine ∧ p.depth ≤ 40
end L3
end
section
set_option autoImplicit false
set_option linter.all false
set_option maxRecDepth 100000
/-! L3: the tables in the heap -/
namespace L3
open PySem (Addr Str PyData)

/-! frames: what a piece of work may change -/
def Fr (O : Addr → Prop) (M M' : Mp) : Prop := ∀ a, ¬ O a → M a ≠ none → M' a = M a
abbrev No : Addr → Prop := fun _ => False
abbrev At (b : Addr) : Addr → Prop := fun a => a = b
section
variable {O O' : Addr → Prop} {M M1 M2 : Mp} {p : Addr} {o : MO}
theorem Fr.refl : Fr O M M := fun _ _ _ => rfl
theorem Fr.trans (h : Fr O M M1) (h2 : Fr O M1 M2) : Fr O M M2 := fun a n z => by
  have e := h a n z
  rw [h2 a n (by rw [e]; exact z), e]
theorem Fr.mono (h : Fr O M M1) (s : ∀ a, O a → O' a) : Fr O' M M1 := fun a n z => h a (fun w => n (s a w)) z
theorem Fr.any (h : Fr No M M1) : Fr O M M1 := h.mono fun _ w => w.elim
theorem Fr.new (h : M p = none) : Fr O M (mset M p o) := fun a _ z => mset_ne (by rintro rfl; exact z h)
theorem Fr.set (h : O p) : Fr O M (mset M p o) := fun a n _ => mset_ne (by rintro rfl; exact n h)
/-- what was made on the way is not told -/
theorem Fr.hide (h : M p = none) (f : Fr (fun a => O a ∨ a = p) M M1) : Fr O M M1 := fun a n z => f a (fun w => w.elim n fun e => z (by rw [e]; exact h)) z
theorem Fr.hide1 (h : M p = none) (f : Fr (At p) M M1) : Fr O M M1 := fun a n z => f a (fun e => z (by rw [show a = p from e]; exact h)) z
theorem Fr.get {a : Addr} {m : MO} (f : Fr O M M1) (n : ¬ O a) (h : M a = some m) : M1 a = some m := by rw [f a n (by rw [h]; exact nofun), h]
theorem Fr.no0 {O : Addr → Prop} (f : Fr O M M1) (n : ¬ O p) (h : M1 p = none) : M p = none := by
  cases e : M p with
  | none => rfl
  | some x => have := f p n (by rw [e]; exact nofun); rw [h, e] at this; cases this
theorem Fr.ne {a : Addr} {m : MO} (h : M a = some m) (hp : M p = none) : a ≠ p := by rintro rfl; rw [h] at hp; cases hp
theorem Fr.unl (h : M p = some o) : Fr O M M1 → O p → Fr O M (mset M1 p o) := fun f z a n w => by
  have : a ≠ p := by rintro rfl; exact n z
  rw [mset_ne this]; exact f a n w
end
section
variable {O : Addr → Prop} {M M1 : Mp}
theorem Deep.keep (f : Fr No M M1) : ∀ {d : D} {q : PyData}, Deep M d q → Deep M1 d q := by
  intro d q h
  refine Deep.rec (motive_1 := fun d q _ => Deep M1 d q) (motive_2 := fun ds qs _ => Deeps M1 ds qs) ?_ ?_ ?_ ?_ ?_ ?_ ?_ ?_ ?_ ?_ h
  · exact .non
  · exact fun b => .bl b
  · exact fun i => .int i
  · exact fun x => .str x
  · exact fun _ h => .tup h
  · exact fun _ h => .kt h
  · exact fun h1 _ h2 => .lst (f.get (fun w => w) h1) h2
  · exact fun h1 _ _ h2 h3 => .dct (f.get (fun w => w) h1) h2 h3
  · exact .nil
  · exact fun _ _ h1 h2 => .cons h1 h2
end

inductive Fl where
  | objects | promises | answers | lent | held | known | hoped | places | arrived | queue | parked | early | waiting | listeners | pins | transfers | out | log | order
  deriving DecidableEq
structure Tb where
  vat : Int
  prog : D
  top : Int
  made : Int
  sent : Int
  asked : Int
  objects : List (D × D)
  promises : List (D × D)
  answers : List (D × D)
  lent : List (D × D)
  held : List (D × D)
  known : List (D × D)
  hoped : List (D × D)
  places : List (D × D)
  arrived : List (D × D)
  queue : List D
  parked : List D
  early : List D
  waiting : List D
  listeners : List D
  pins : List (D × D)
  transfers : List D
  out : List D
  log : List D
  order : List D
def Tb.box (S : Tb) : Fl → MO
  | .objects => .dct S.objects
  | .promises => .dct S.promises
  | .answers => .dcT S.answers
  | .lent => .dcT S.lent
  | .held => .dcT S.held
  | .known => .dcT S.known
  | .hoped => .dcT S.hoped
  | .places => .dcT S.places
  | .arrived => .dcT S.arrived
  | .queue => .lst S.queue
  | .parked => .lst S.parked
  | .early => .lst S.early
  | .waiting => .lst S.waiting
  | .listeners => .lst S.listeners
  | .pins => .dcT S.pins
  | .transfers => .lst S.transfers
  | .out => .lst S.out
  | .log => .lst S.log
  | .order => .lst S.order
def Tb.ins (S : Tb) (lt : Fl → Addr) : List (Str × D) := [("vat", .int S.vat), ("program", S.prog), ("objects", .ref (lt .objects)), ("made", .int S.made), ("sent", .int S.sent), ("asked", .int S.asked), ("promises", .ref (lt .promises)), ("answers", .ref (lt .answers)), ("lent", .ref (lt .lent)), ("held", .ref (lt .held)), ("known", .ref (lt .known)), ("hoped", .ref (lt .hoped)), ("places", .ref (lt .places)), ("arrived", .ref (lt .arrived)), ("queue", .ref (lt .queue)), ("parked", .ref (lt .parked)), ("early", .ref (lt .early)), ("waiting", .ref (lt .waiting)), ("listeners", .ref (lt .listeners)), ("pins", .ref (lt .pins)), ("transfers", .ref (lt .transfers)), ("out", .ref (lt .out)), ("log", .ref (lt .log)), ("order", .ref (lt .order))]
def Tb.dct (S : Tb) (ls : Fl → Addr) : List (D × D) := [(.str "vat", .int S.vat), (.str "top", .int S.top), (.str "objects", .ref (ls .objects)), (.str "made", .int S.made), (.str "sent", .int S.sent), (.str "asked", .int S.asked), (.str "promises", .ref (ls .promises)), (.str "answers", .ref (ls .answers)), (.str "lent", .ref (ls .lent)), (.str "held", .ref (ls .held)), (.str "known", .ref (ls .known)), (.str "hoped", .ref (ls .hoped)), (.str "places", .ref (ls .places)), (.str "arrived", .ref (ls .arrived)), (.str "queue", .ref (ls .queue)), (.str "parked", .ref (ls .parked)), (.str "early", .ref (ls .early)), (.str "waiting", .ref (ls .waiting)), (.str "listeners", .ref (ls .listeners)), (.str "pins", .ref (ls .pins)), (.str "transfers", .ref (ls .transfers)), (.str "out", .ref (ls .out)), (.str "log", .ref (ls .log))]
/-- the class's fields are told -/
def FlT (P : Pr) : Prop := ∀ f ∈ (["vat", "program", "objects", "made", "sent", "asked", "promises", "answers", "lent", "held", "known", "hoped", "places", "arrived", "queue", "parked", "early", "waiting", "listeners", "pins", "transfers", "out", "log", "order"] : List Str), P.fl 0 f = true
/-- an instance of Tables and what it holds -/
def OT (t : Addr) (lt : Fl → Addr) : Addr → Prop := fun a => a = t ∨ ∃ i, a = lt i
structure TT (M : Mp) (t : Addr) (lt : Fl → Addr) (S : Tb) : Prop where
  inj : ∀ i j, lt i = lt j → i = j
  ne : ∀ i, lt i ≠ t
  ins : M t = some (.ins 0 (S.ins lt))
  box : ∀ i, M (lt i) = some (S.box i)
/-- a law's own tables: order is not held -/
def OS (s : Addr) (ls : Fl → Addr) : Addr → Prop := fun a => a = s ∨ ∃ i, i ≠ .order ∧ a = ls i
structure SS (M : Mp) (s : Addr) (ls : Fl → Addr) (S : Tb) : Prop where
  inj : ∀ i j, i ≠ .order → j ≠ .order → ls i = ls j → i = j
  ne : ∀ i, i ≠ .order → ls i ≠ s
  dct : M s = some (.dct (S.dct ls))
  box : ∀ i, i ≠ .order → M (ls i) = some (S.box i)
def Tb.put (S : Tb) : Fl → MO → Tb
  | .objects, .dct x => { S with objects := x }
  | .promises, .dct x => { S with promises := x }
  | .answers, .dcT x => { S with answers := x }
  | .lent, .dcT x => { S with lent := x }
  | .held, .dcT x => { S with held := x }
  | .known, .dcT x => { S with known := x }
  | .hoped, .dcT x => { S with hoped := x }
  | .places, .dcT x => { S with places := x }
  | .arrived, .dcT x => { S with arrived := x }
  | .queue, .lst x => { S with queue := x }
  | .parked, .lst x => { S with parked := x }
  | .early, .lst x => { S with early := x }
  | .waiting, .lst x => { S with waiting := x }
  | .listeners, .lst x => { S with listeners := x }
  | .pins, .dcT x => { S with pins := x }
  | .transfers, .lst x => { S with transfers := x }
  | .out, .lst x => { S with out := x }
  | .log, .lst x => { S with log := x }
  | .order, .lst x => { S with order := x }
  | _, _ => S
def Tb.fit : Fl → MO → Prop
  | .objects, .dct _ => True
  | .promises, .dct _ => True
  | .answers, .dcT _ => True
  | .lent, .dcT _ => True
  | .held, .dcT _ => True
  | .known, .dcT _ => True
  | .hoped, .dcT _ => True
  | .places, .dcT _ => True
  | .arrived, .dcT _ => True
  | .queue, .lst _ => True
  | .parked, .lst _ => True
  | .early, .lst _ => True
  | .waiting, .lst _ => True
  | .listeners, .lst _ => True
  | .pins, .dcT _ => True
  | .transfers, .lst _ => True
  | .out, .lst _ => True
  | .log, .lst _ => True
  | .order, .lst _ => True
  | _, _ => False
theorem Tb.put_ins {S : Tb} {i : Fl} {o : MO} {lt : Fl → Addr} : (S.put i o).ins lt = S.ins lt := by cases i <;> cases o <;> rfl
theorem Tb.put_dct {S : Tb} {i : Fl} {o : MO} {lt : Fl → Addr} : (S.put i o).dct lt = S.dct lt := by cases i <;> cases o <;> rfl
theorem Tb.put_box {S : Tb} {i : Fl} {o : MO} (h : Tb.fit i o) : (S.put i o).box i = o := by cases i <;> cases o <;> first | rfl | exact h.elim
theorem Tb.put_ne {S : Tb} {i j : Fl} {o : MO} (h : j ≠ i) : (S.put i o).box j = S.box j := by cases i <;> cases o <;> first | rfl | (cases j <;> first | rfl | exact absurd rfl h)
section
variable {P : Pr} {M M1 : Mp} {t s : Addr} {lt ls : Fl → Addr} {S : Tb} {Q : Post} {v : D} {km : Mp → Prop}
theorem TT.keep (h : TT M t lt S) (f : ∀ a, OT t lt a → M1 a = M a) : TT M1 t lt S := ⟨h.inj, h.ne, by rw [f t (.inl rfl)]; exact h.ins, fun i => by rw [f _ (.inr ⟨i, rfl⟩)]; exact h.box i⟩
theorem SS.keep (h : SS M s ls S) (f : ∀ a, OS s ls a → M1 a = M a) : SS M1 s ls S := ⟨h.inj, h.ne, by rw [f s (.inl rfl)]; exact h.dct, fun i n => by rw [f _ (.inr ⟨i, n, rfl⟩)]; exact h.box i n⟩
theorem TT.has (h : TT M t lt S) {a : Addr} (o : OT t lt a) : M a ≠ none := by
  rcases o with rfl | ⟨i, rfl⟩
  · rw [h.ins]; exact nofun
  · rw [h.box]; exact nofun
theorem SS.has (h : SS M s ls S) {a : Addr} (o : OS s ls a) : M a ≠ none := by
  rcases o with rfl | ⟨i, n, rfl⟩
  · rw [h.dct]; exact nofun
  · rw [h.box i n]; exact nofun
theorem TT.fr (h : TT M t lt S) {O : Addr → Prop} (f : Fr O M M1) (n : ∀ a, O a → OT t lt a → False) : TT M1 t lt S := h.keep fun a o => f a (fun w => n a w o) (h.has o)
theorem SS.fr (h : SS M s ls S) {O : Addr → Prop} (f : Fr O M M1) (n : ∀ a, O a → OS s ls a → False) : SS M1 s ls S := h.keep fun a o => f a (fun w => n a w o) (h.has o)
theorem TT.new (h : TT M t lt S) {p : Addr} {o : MO} (hp : M p = none) : TT (mset M p o) t lt S := h.keep fun a w => mset_ne (by rintro rfl; exact h.has w hp)
theorem SS.new (h : SS M s ls S) {p : Addr} {o : MO} (hp : M p = none) : SS (mset M p o) s ls S := h.keep fun a w => mset_ne (by rintro rfl; exact h.has w hp)
/-- a box is written -/
theorem TT.put (h : TT M t lt S) {i : Fl} {o : MO} (f : Tb.fit i o) : TT (mset M (lt i) o) t lt (S.put i o) := by
  refine ⟨h.inj, h.ne, ?_, fun j => ?_⟩
  · rw [mset_ne (h.ne i).symm, Tb.put_ins]; exact h.ins
  · by_cases e : j = i
    · subst e; rw [mset_same, Tb.put_box f]
    · rw [mset_ne (fun z => e (h.inj _ _ z)), Tb.put_ne e]; exact h.box j
theorem SS.put (h : SS M s ls S) {i : Fl} {o : MO} (n : i ≠ .order) (f : Tb.fit i o) : SS (mset M (ls i) o) s ls (S.put i o) := by
  refine ⟨h.inj, h.ne, ?_, fun j nj => ?_⟩
  · rw [mset_ne (h.ne i n).symm, Tb.put_dct]; exact h.dct
  · by_cases e : j = i
    · subst e; rw [mset_same, Tb.put_box f]
    · rw [mset_ne (fun z => e (h.inj _ _ nj n z)), Tb.put_ne e]; exact h.box j nj

theorem TT.g_vat (h : TT M t lt S) (hF : FlT P) : wpFld P (.ref t) "vat" M Q ↔ Q (.int S.vat) M := by
  rw [w_fld h.ins]
  exact ⟨fun ⟨_, d, e, q⟩ => by cases e; exact q, fun q => ⟨hF _ (by decide), _, rfl, q⟩⟩
theorem TT.g_program (h : TT M t lt S) (hF : FlT P) : wpFld P (.ref t) "program" M Q ↔ Q (S.prog) M := by
  rw [w_fld h.ins]
  exact ⟨fun ⟨_, d, e, q⟩ => by cases e; exact q, fun q => ⟨hF _ (by decide), _, rfl, q⟩⟩
theorem TT.g_objects (h : TT M t lt S) (hF : FlT P) : wpFld P (.ref t) "objects" M Q ↔ Q (.ref (lt .objects)) M := by
  rw [w_fld h.ins]
  exact ⟨fun ⟨_, d, e, q⟩ => by cases e; exact q, fun q => ⟨hF _ (by decide), _, rfl, q⟩⟩
theorem TT.g_made (h : TT M t lt S) (hF : FlT P) : wpFld P (.ref t) "made" M Q ↔ Q (.int S.made) M := by
  rw [w_fld h.ins]
  exact ⟨fun ⟨_, d, e, q⟩ => by cases e; exact q, fun q => ⟨hF _ (by decide), _, rfl, q⟩⟩
theorem TT.g_sent (h : TT M t lt S) (hF : FlT P) : wpFld P (.ref t) "sent" M Q ↔ Q (.int S.sent) M := by
  rw [w_fld h.ins]
  exact ⟨fun ⟨_, d, e, q⟩ => by cases e; exact q, fun q => ⟨hF _ (by decide), _, rfl, q⟩⟩
theorem TT.g_asked (h : TT M t lt S) (hF : FlT P) : wpFld P (.ref t) "asked" M Q ↔ Q (.int S.asked) M := by
  rw [w_fld h.ins]
  exact ⟨fun ⟨_, d, e, q⟩ => by cases e; exact q, fun q => ⟨hF _ (by decide), _, rfl, q⟩⟩
theorem TT.g_promises (h : TT M t lt S) (hF : FlT P) : wpFld P (.ref t) "promises" M Q ↔ Q (.ref (lt .promises)) M := by
  rw [w_fld h.ins]
  exact ⟨fun ⟨_, d, e, q⟩ => by cases e; exact q, fun q => ⟨hF _ (by decide), _, rfl, q⟩⟩
theorem TT.g_answers (h : TT M t lt S) (hF : FlT P) : wpFld P (.ref t) "answers" M Q ↔ Q (.ref (lt .answers)) M := by
  rw [w_fld h.ins]
  exact ⟨fun ⟨_, d, e, q⟩ => by cases e; exact q, fun q => ⟨hF _ (by decide), _, rfl, q⟩⟩
theorem TT.g_lent (h : TT M t lt S) (hF : FlT P) : wpFld P (.ref t) "lent" M Q ↔ Q (.ref (lt .lent)) M := by
  rw [w_fld h.ins]
  exact ⟨fun ⟨_, d, e, q⟩ => by cases e; exact q, fun q => ⟨hF _ (by decide), _, rfl, q⟩⟩
theorem TT.g_held (h : TT M t lt S) (hF : FlT P) : wpFld P (.ref t) "held" M Q ↔ Q (.ref (lt .held)) M := by
  rw [w_fld h.ins]
  exact ⟨fun ⟨_, d, e, q⟩ => by cases e; exact q, fun q => ⟨hF _ (by decide), _, rfl, q⟩⟩
theorem TT.g_known (h : TT M t lt S) (hF : FlT P) : wpFld P (.ref t) "known" M Q ↔ Q (.ref (lt .known)) M := by
  rw [w_fld h.ins]
  exact ⟨fun ⟨_, d, e, q⟩ => by cases e; exact q, fun q => ⟨hF _ (by decide), _, rfl, q⟩⟩
theorem TT.g_hoped (h : TT M t lt S) (hF : FlT P) : wpFld P (.ref t) "hoped" M Q ↔ Q (.ref (lt .hoped)) M := by
  rw [w_fld h.ins]
  exact ⟨fun ⟨_, d, e, q⟩ => by cases e; exact q, fun q => ⟨hF _ (by decide), _, rfl, q⟩⟩
theorem TT.g_places (h : TT M t lt S) (hF : FlT P) : wpFld P (.ref t) "places" M Q ↔ Q (.ref (lt .places)) M := by
  rw [w_fld h.ins]
  exact ⟨fun ⟨_, d, e, q⟩ => by cases e; exact q, fun q => ⟨hF _ (by decide), _, rfl, q⟩⟩
theorem TT.g_arrived (h : TT M t lt S) (hF : FlT P) : wpFld P (.ref t) "arrived" M Q ↔ Q (.ref (lt .arrived)) M := by
  rw [w_fld h.ins]
  exact ⟨fun ⟨_, d, e, q⟩ => by cases e; exact q, fun q => ⟨hF _ (by decide), _, rfl, q⟩⟩
theorem TT.g_queue (h : TT M t lt S) (hF : FlT P) : wpFld P (.ref t) "queue" M Q ↔ Q (.ref (lt .queue)) M := by
  rw [w_fld h.ins]
  exact ⟨fun ⟨_, d, e, q⟩ => by cases e; exact q, fun q => ⟨hF _ (by decide), _, rfl, q⟩⟩
theorem TT.g_parked (h : TT M t lt S) (hF : FlT P) : wpFld P (.ref t) "parked" M Q ↔ Q (.ref (lt .parked)) M := by
  rw [w_fld h.ins]
  exact ⟨fun ⟨_, d, e, q⟩ => by cases e; exact q, fun q => ⟨hF _ (by decide), _, rfl, q⟩⟩
theorem TT.g_early (h : TT M t lt S) (hF : FlT P) : wpFld P (.ref t) "early" M Q ↔ Q (.ref (lt .early)) M := by
  rw [w_fld h.ins]
  exact ⟨fun ⟨_, d, e, q⟩ => by cases e; exact q, fun q => ⟨hF _ (by decide), _, rfl, q⟩⟩
theorem TT.g_waiting (h : TT M t lt S) (hF : FlT P) : wpFld P (.ref t) "waiting" M Q ↔ Q (.ref (lt .waiting)) M := by
  rw [w_fld h.ins]
  exact ⟨fun ⟨_, d, e, q⟩ => by cases e; exact q, fun q => ⟨hF _ (by decide), _, rfl, q⟩⟩
theorem TT.g_listeners (h : TT M t lt S) (hF : FlT P) : wpFld P (.ref t) "listeners" M Q ↔ Q (.ref (lt .listeners)) M := by
  rw [w_fld h.ins]
  exact ⟨fun ⟨_, d, e, q⟩ => by cases e; exact q, fun q => ⟨hF _ (by decide), _, rfl, q⟩⟩
theorem TT.g_pins (h : TT M t lt S) (hF : FlT P) : wpFld P (.ref t) "pins" M Q ↔ Q (.ref (lt .pins)) M := by
  rw [w_fld h.ins]
  exact ⟨fun ⟨_, d, e, q⟩ => by cases e; exact q, fun q => ⟨hF _ (by decide), _, rfl, q⟩⟩
theorem TT.g_transfers (h : TT M t lt S) (hF : FlT P) : wpFld P (.ref t) "transfers" M Q ↔ Q (.ref (lt .transfers)) M := by
  rw [w_fld h.ins]
  exact ⟨fun ⟨_, d, e, q⟩ => by cases e; exact q, fun q => ⟨hF _ (by decide), _, rfl, q⟩⟩
theorem TT.g_out (h : TT M t lt S) (hF : FlT P) : wpFld P (.ref t) "out" M Q ↔ Q (.ref (lt .out)) M := by
  rw [w_fld h.ins]
  exact ⟨fun ⟨_, d, e, q⟩ => by cases e; exact q, fun q => ⟨hF _ (by decide), _, rfl, q⟩⟩
theorem TT.g_log (h : TT M t lt S) (hF : FlT P) : wpFld P (.ref t) "log" M Q ↔ Q (.ref (lt .log)) M := by
  rw [w_fld h.ins]
  exact ⟨fun ⟨_, d, e, q⟩ => by cases e; exact q, fun q => ⟨hF _ (by decide), _, rfl, q⟩⟩
theorem TT.g_order (h : TT M t lt S) (hF : FlT P) : wpFld P (.ref t) "order" M Q ↔ Q (.ref (lt .order)) M := by
  rw [w_fld h.ins]
  exact ⟨fun ⟨_, d, e, q⟩ => by cases e; exact q, fun q => ⟨hF _ (by decide), _, rfl, q⟩⟩
theorem SS.g_vat (h : SS M s ls S) : wpIx (.ref s) (.str "vat") M Q ↔ Q (.int S.vat) M := by
  rw [w_ixD h.dct]
  exact ⟨fun ⟨_, d, e, q⟩ => by cases e; exact q, fun q => ⟨rfl, _, rfl, q⟩⟩
theorem SS.g_top (h : SS M s ls S) : wpIx (.ref s) (.str "top") M Q ↔ Q (.int S.top) M := by
  rw [w_ixD h.dct]
  exact ⟨fun ⟨_, d, e, q⟩ => by cases e; exact q, fun q => ⟨rfl, _, rfl, q⟩⟩
theorem SS.g_objects (h : SS M s ls S) : wpIx (.ref s) (.str "objects") M Q ↔ Q (.ref (ls .objects)) M := by
  rw [w_ixD h.dct]
  exact ⟨fun ⟨_, d, e, q⟩ => by cases e; exact q, fun q => ⟨rfl, _, rfl, q⟩⟩
theorem SS.g_made (h : SS M s ls S) : wpIx (.ref s) (.str "made") M Q ↔ Q (.int S.made) M := by
  rw [w_ixD h.dct]
  exact ⟨fun ⟨_, d, e, q⟩ => by cases e; exact q, fun q => ⟨rfl, _, rfl, q⟩⟩
theorem SS.g_sent (h : SS M s ls S) : wpIx (.ref s) (.str "sent") M Q ↔ Q (.int S.sent) M := by
  rw [w_ixD h.dct]
  exact ⟨fun ⟨_, d, e, q⟩ => by cases e; exact q, fun q => ⟨rfl, _, rfl, q⟩⟩
theorem SS.g_asked (h : SS M s ls S) : wpIx (.ref s) (.str "asked") M Q ↔ Q (.int S.asked) M := by
  rw [w_ixD h.dct]
  exact ⟨fun ⟨_, d, e, q⟩ => by cases e; exact q, fun q => ⟨rfl, _, rfl, q⟩⟩
theorem SS.g_promises (h : SS M s ls S) : wpIx (.ref s) (.str "promises") M Q ↔ Q (.ref (ls .promises)) M := by
  rw [w_ixD h.dct]
  exact ⟨fun ⟨_, d, e, q⟩ => by cases e; exact q, fun q => ⟨rfl, _, rfl, q⟩⟩
theorem SS.g_answers (h : SS M s ls S) : wpIx (.ref s) (.str "answers") M Q ↔ Q (.ref (ls .answers)) M := by
  rw [w_ixD h.dct]
  exact ⟨fun ⟨_, d, e, q⟩ => by cases e; exact q, fun q => ⟨rfl, _, rfl, q⟩⟩
theorem SS.g_lent (h : SS M s ls S) : wpIx (.ref s) (.str "lent") M Q ↔ Q (.ref (ls .lent)) M := by
  rw [w_ixD h.dct]
  exact ⟨fun ⟨_, d, e, q⟩ => by cases e; exact q, fun q => ⟨rfl, _, rfl, q⟩⟩
theorem SS.g_held (h : SS M s ls S) : wpIx (.ref s) (.str "held") M Q ↔ Q (.ref (ls .held)) M := by
  rw [w_ixD h.dct]
  exact ⟨fun ⟨_, d, e, q⟩ => by cases e; exact q, fun q => ⟨rfl, _, rfl, q⟩⟩
theorem SS.g_known (h : SS M s ls S) : wpIx (.ref s) (.str "known") M Q ↔ Q (.ref (ls .known)) M := by
  rw [w_ixD h.dct]
  exact ⟨fun ⟨_, d, e, q⟩ => by cases e; exact q, fun q => ⟨rfl, _, rfl, q⟩⟩
theorem SS.g_hoped (h : SS M s ls S) : wpIx (.ref s) (.str "hoped") M Q ↔ Q (.ref (ls .hoped)) M := by
  rw [w_ixD h.dct]
  exact ⟨fun ⟨_, d, e, q⟩ => by cases e; exact q, fun q => ⟨rfl, _, rfl, q⟩⟩
theorem SS.g_places (h : SS M s ls S) : wpIx (.ref s) (.str "places") M Q ↔ Q (.ref (ls .places)) M := by
  rw [w_ixD h.dct]
  exact ⟨fun ⟨_, d, e, q⟩ => by cases e; exact q, fun q => ⟨rfl, _, rfl, q⟩⟩
theorem SS.g_arrived (h : SS M s ls S) : wpIx (.ref s) (.str "arrived") M Q ↔ Q (.ref (ls .arrived)) M := by
  rw [w_ixD h.dct]
  exact ⟨fun ⟨_, d, e, q⟩ => by cases e; exact q, fun q => ⟨rfl, _, rfl, q⟩⟩
theorem SS.g_queue (h : SS M s ls S) : wpIx (.ref s) (.str "queue") M Q ↔ Q (.ref (ls .queue)) M := by
  rw [w_ixD h.dct]
  exact ⟨fun ⟨_, d, e, q⟩ => by cases e; exact q, fun q => ⟨rfl, _, rfl, q⟩⟩
theorem SS.g_parked (h : SS M s ls S) : wpIx (.ref s) (.str "parked") M Q ↔ Q (.ref (ls .parked)) M := by
  rw [w_ixD h.dct]
  exact ⟨fun ⟨_, d, e, q⟩ => by cases e; exact q, fun q => ⟨rfl, _, rfl, q⟩⟩
theorem SS.g_early (h : SS M s ls S) : wpIx (.ref s) (.str "early") M Q ↔ Q (.ref (ls .early)) M := by
  rw [w_ixD h.dct]
  exact ⟨fun ⟨_, d, e, q⟩ => by cases e; exact q, fun q => ⟨rfl, _, rfl, q⟩⟩
theorem SS.g_waiting (h : SS M s ls S) : wpIx (.ref s) (.str "waiting") M Q ↔ Q (.ref (ls .waiting)) M := by
  rw [w_ixD h.dct]
  exact ⟨fun ⟨_, d, e, q⟩ => by cases e; exact q, fun q => ⟨rfl, _, rfl, q⟩⟩
theorem SS.g_listeners (h : SS M s ls S) : wpIx (.ref s) (.str "listeners") M Q ↔ Q (.ref (ls .listeners)) M := by
  rw [w_ixD h.dct]
  exact ⟨fun ⟨_, d, e, q⟩ => by cases e; exact q, fun q => ⟨rfl, _, rfl, q⟩⟩
theorem SS.g_pins (h : SS M s ls S) : wpIx (.ref s) (.str "pins") M Q ↔ Q (.ref (ls .pins)) M := by
  rw [w_ixD h.dct]
  exact ⟨fun ⟨_, d, e, q⟩ => by cases e; exact q, fun q => ⟨rfl, _, rfl, q⟩⟩
theorem SS.g_transfers (h : SS M s ls S) : wpIx (.ref s) (.str "transfers") M Q ↔ Q (.ref (ls .transfers)) M := by
  rw [w_ixD h.dct]
  exact ⟨fun ⟨_, d, e, q⟩ => by cases e; exact q, fun q => ⟨rfl, _, rfl, q⟩⟩
theorem SS.g_out (h : SS M s ls S) : wpIx (.ref s) (.str "out") M Q ↔ Q (.ref (ls .out)) M := by
  rw [w_ixD h.dct]
  exact ⟨fun ⟨_, d, e, q⟩ => by cases e; exact q, fun q => ⟨rfl, _, rfl, q⟩⟩
theorem SS.g_log (h : SS M s ls S) : wpIx (.ref s) (.str "log") M Q ↔ Q (.ref (ls .log)) M := by
  rw [w_ixD h.dct]
  exact ⟨fun ⟨_, d, e, q⟩ => by cases e; exact q, fun q => ⟨rfl, _, rfl, q⟩⟩
theorem TT.b_objects (h : TT M t lt S) : M (lt .objects) = some (.dct S.objects) := h.box .objects
theorem TT.p_objects (h : TT M t lt S) {x : List (D × D)} : TT (mset M (lt .objects) (.dct x)) t lt { S with objects := x } := h.put (i := .objects) (o := .dct x) trivial
theorem SS.b_objects (h : SS M s ls S) : M (ls .objects) = some (.dct S.objects) := h.box .objects nofun
theorem SS.p_objects (h : SS M s ls S) {x : List (D × D)} : SS (mset M (ls .objects) (.dct x)) s ls { S with objects := x } := h.put (i := .objects) (o := .dct x) nofun trivial
theorem TT.b_promises (h : TT M t lt S) : M (lt .promises) = some (.dct S.promises) := h.box .promises
theorem TT.p_promises (h : TT M t lt S) {x : List (D × D)} : TT (mset M (lt .promises) (.dct x)) t lt { S with promises := x } := h.put (i := .promises) (o := .dct x) trivial
theorem SS.b_promises (h : SS M s ls S) : M (ls .promises) = some (.dct S.promises) := h.box .promises nofun
theorem SS.p_promises (h : SS M s ls S) {x : List (D × D)} : SS (mset M (ls .promises) (.dct x)) s ls { S with promises := x } := h.put (i := .promises) (o := .dct x) nofun trivial
theorem TT.b_answers (h : TT M t lt S) : M (lt .answers) = some (.dcT S.answers) := h.box .answers
theorem TT.p_answers (h : TT M t lt S) {x : List (D × D)} : TT (mset M (lt .answers) (.dcT x)) t lt { S with answers := x } := h.put (i := .answers) (o := .dcT x) trivial
theorem SS.b_answers (h : SS M s ls S) : M (ls .answers) = some (.dcT S.answers) := h.box .answers nofun
theorem SS.p_answers (h : SS M s ls S) {x : List (D × D)} : SS (mset M (ls .answers) (.dcT x)) s ls { S with answers := x } := h.put (i := .answers) (o := .dcT x) nofun trivial
theorem TT.b_lent (h : TT M t lt S) : M (lt .lent) = some (.dcT S.lent) := h.box .lent
theorem TT.p_lent (h : TT M t lt S) {x : List (D × D)} : TT (mset M (lt .lent) (.dcT x)) t lt { S with lent := x } := h.put (i := .lent) (o := .dcT x) trivial
theorem SS.b_lent (h : SS M s ls S) : M (ls .lent) = some (.dcT S.lent) := h.box .lent nofun
theorem SS.p_lent (h : SS M s ls S) {x : List (D × D)} : SS (mset M (ls .lent) (.dcT x)) s ls { S with lent := x } := h.put (i := .lent) (o := .dcT x) nofun trivial
theorem TT.b_held (h : TT M t lt S) : M (lt .held) = some (.dcT S.held) := h.box .held
theorem TT.p_held (h : TT M t lt S) {x : List (D × D)} : TT (mset M (lt .held) (.dcT x)) t lt { S with held := x } := h.put (i := .held) (o := .dcT x) trivial
theorem SS.b_held (h : SS M s ls S) : M (ls .held) = some (.dcT S.held) := h.box .held nofun
theorem SS.p_held (h : SS M s ls S) {x : List (D × D)} : SS (mset M (ls .held) (.dcT x)) s ls { S with held := x } := h.put (i := .held) (o := .dcT x) nofun trivial
theorem TT.b_known (h : TT M t lt S) : M (lt .known) = some (.dcT S.known) := h.box .known
theorem TT.p_known (h : TT M t lt S) {x : List (D × D)} : TT (mset M (lt .known) (.dcT x)) t lt { S with known := x } := h.put (i := .known) (o := .dcT x) trivial
theorem SS.b_known (h : SS M s ls S) : M (ls .known) = some (.dcT S.known) := h.box .known nofun
theorem SS.p_known (h : SS M s ls S) {x : List (D × D)} : SS (mset M (ls .known) (.dcT x)) s ls { S with known := x } := h.put (i := .known) (o := .dcT x) nofun trivial
theorem TT.b_hoped (h : TT M t lt S) : M (lt .hoped) = some (.dcT S.hoped) := h.box .hoped
theorem TT.p_hoped (h : TT M t lt S) {x : List (D × D)} : TT (mset M (lt .hoped) (.dcT x)) t lt { S with hoped := x } := h.put (i := .hoped) (o := .dcT x) trivial
theorem SS.b_hoped (h : SS M s ls S) : M (ls .hoped) = some (.dcT S.hoped) := h.box .hoped nofun
theorem SS.p_hoped (h : SS M s ls S) {x : List (D × D)} : SS (mset M (ls .hoped) (.dcT x)) s ls { S with hoped := x } := h.put (i := .hoped) (o := .dcT x) nofun trivial
theorem TT.b_places (h : TT M t lt S) : M (lt .places) = some (.dcT S.places) := h.box .places
theorem TT.p_places (h : TT M t lt S) {x : List (D × D)} : TT (mset M (lt .places) (.dcT x)) t lt { S with places := x } := h.put (i := .places) (o := .dcT x) trivial
theorem SS.b_places (h : SS M s ls S) : M (ls .places) = some (.dcT S.places) := h.box .places nofun
theorem SS.p_places (h : SS M s ls S) {x : List (D × D)} : SS (mset M (ls .places) (.dcT x)) s ls { S with places := x } := h.put (i := .places) (o := .dcT x) nofun trivial
theorem TT.b_arrived (h : TT M t lt S) : M (lt .arrived) = some (.dcT S.arrived) := h.box .arrived
theorem TT.p_arrived (h : TT M t lt S) {x : List (D × D)} : TT (mset M (lt .arrived) (.dcT x)) t lt { S with arrived := x } := h.put (i := .arrived) (o := .dcT x) trivial
theorem SS.b_arrived (h : SS M s ls S) : M (ls .arrived) = some (.dcT S.arrived) := h.box .arrived nofun
theorem SS.p_arrived (h : SS M s ls S) {x : List (D × D)} : SS (mset M (ls .arrived) (.dcT x)) s ls { S with arrived := x } := h.put (i := .arrived) (o := .dcT x) nofun trivial
theorem TT.b_queue (h : TT M t lt S) : M (lt .queue) = some (.lst S.queue) := h.box .queue
theorem TT.p_queue (h : TT M t lt S) {x : List D} : TT (mset M (lt .queue) (.lst x)) t lt { S with queue := x } := h.put (i := .queue) (o := .lst x) trivial
theorem SS.b_queue (h : SS M s ls S) : M (ls .queue) = some (.lst S.queue) := h.box .queue nofun
theorem SS.p_queue (h : SS M s ls S) {x : List D} : SS (mset M (ls .queue) (.lst x)) s ls { S with queue := x } := h.put (i := .queue) (o := .lst x) nofun trivial
theorem TT.b_parked (h : TT M t lt S) : M (lt .parked) = some (.lst S.parked) := h.box .parked
theorem TT.p_parked (h : TT M t lt S) {x : List D} : TT (mset M (lt .parked) (.lst x)) t lt { S with parked := x } := h.put (i := .parked) (o := .lst x) trivial
theorem SS.b_parked (h : SS M s ls S) : M (ls .parked) = some (.lst S.parked) := h.box .parked nofun
theorem SS.p_parked (h : SS M s ls S) {x : List D} : SS (mset M (ls .parked) (.lst x)) s ls { S with parked := x } := h.put (i := .parked) (o := .lst x) nofun trivial
theorem TT.b_early (h : TT M t lt S) : M (lt .early) = some (.lst S.early) := h.box .early
theorem TT.p_early (h : TT M t lt S) {x : List D} : TT (mset M (lt .early) (.lst x)) t lt { S with early := x } := h.put (i := .early) (o := .lst x) trivial
theorem SS.b_early (h : SS M s ls S) : M (ls .early) = some (.lst S.early) := h.box .early nofun
theorem SS.p_early (h : SS M s ls S) {x : List D} : SS (mset M (ls .early) (.lst x)) s ls { S with early := x } := h.put (i := .early) (o := .lst x) nofun trivial
theorem TT.b_waiting (h : TT M t lt S) : M (lt .waiting) = some (.lst S.waiting) := h.box .waiting
theorem TT.p_waiting (h : TT M t lt S) {x : List D} : TT (mset M (lt .waiting) (.lst x)) t lt { S with waiting := x } := h.put (i := .waiting) (o := .lst x) trivial
theorem SS.b_waiting (h : SS M s ls S) : M (ls .waiting) = some (.lst S.waiting) := h.box .waiting nofun
theorem SS.p_waiting (h : SS M s ls S) {x : List D} : SS (mset M (ls .waiting) (.lst x)) s ls { S with waiting := x } := h.put (i := .waiting) (o := .lst x) nofun trivial
theorem TT.b_listeners (h : TT M t lt S) : M (lt .listeners) = some (.lst S.listeners) := h.box .listeners
theorem TT.p_listeners (h : TT M t lt S) {x : List D} : TT (mset M (lt .listeners) (.lst x)) t lt { S with listeners := x } := h.put (i := .listeners) (o := .lst x) trivial
theorem SS.b_listeners (h : SS M s ls S) : M (ls .listeners) = some (.lst S.listeners) := h.box .listeners nofun
theorem SS.p_listeners (h : SS M s ls S) {x : List D} : SS (mset M (ls .listeners) (.lst x)) s ls { S with listeners := x } := h.put (i := .listeners) (o := .lst x) nofun trivial
theorem TT.b_pins (h : TT M t lt S) : M (lt .pins) = some (.dcT S.pins) := h.box .pins
theorem TT.p_pins (h : TT M t lt S) {x : List (D × D)} : TT (mset M (lt .pins) (.dcT x)) t lt { S with pins := x } := h.put (i := .pins) (o := .dcT x) trivial
theorem SS.b_pins (h : SS M s ls S) : M (ls .pins) = some (.dcT S.pins) := h.box .pins nofun
theorem SS.p_pins (h : SS M s ls S) {x : List (D × D)} : SS (mset M (ls .pins) (.dcT x)) s ls { S with pins := x } := h.put (i := .pins) (o := .dcT x) nofun trivial
theorem TT.b_transfers (h : TT M t lt S) : M (lt .transfers) = some (.lst S.transfers) := h.box .transfers
theorem TT.p_transfers (h : TT M t lt S) {x : List D} : TT (mset M (lt .transfers) (.lst x)) t lt { S with transfers := x } := h.put (i := .transfers) (o := .lst x) trivial
theorem SS.b_transfers (h : SS M s ls S) : M (ls .transfers) = some (.lst S.transfers) := h.box .transfers nofun
theorem SS.p_transfers (h : SS M s ls S) {x : List D} : SS (mset M (ls .transfers) (.lst x)) s ls { S with transfers := x } := h.put (i := .transfers) (o := .lst x) nofun trivial
theorem TT.b_out (h : TT M t lt S) : M (lt .out) = some (.lst S.out) := h.box .out
theorem TT.p_out (h : TT M t lt S) {x : List D} : TT (mset M (lt .out) (.lst x)) t lt { S with out := x } := h.put (i := .out) (o := .lst x) trivial
theorem SS.b_out (h : SS M s ls S) : M (ls .out) = some (.lst S.out) := h.box .out nofun
theorem SS.p_out (h : SS M s ls S) {x : List D} : SS (mset M (ls .out) (.lst x)) s ls { S with out := x } := h.put (i := .out) (o := .lst x) nofun trivial
theorem TT.b_log (h : TT M t lt S) : M (lt .log) = some (.lst S.log) := h.box .log
theorem TT.p_log (h : TT M t lt S) {x : List D} : TT (mset M (lt .log) (.lst x)) t lt { S with log := x } := h.put (i := .log) (o := .lst x) trivial
theorem SS.b_log (h : SS M s ls S) : M (ls .log) = some (.lst S.log) := h.box .log nofun
theorem SS.p_log (h : SS M s ls S) {x : List D} : SS (mset M (ls .log) (.lst x)) s ls { S with log := x } := h.put (i := .log) (o := .lst x) nofun trivial
theorem TT.b_order (h : TT M t lt S) : M (lt .order) = some (.lst S.order) := h.box .order
theorem TT.p_order (h : TT M t lt S) {x : List D} : TT (mset M (lt .order) (.lst x)) t lt { S with order := x } := h.put (i := .order) (o := .lst x) trivial
theorem TT.w_made (h : TT M t lt S) (hF : FlT P) {x : Int} : wpSetFld P (.ref t) "made" (.int x) M km ↔ km (mset M t (.ins 0 (Tb.ins { S with made := x } lt))) := by
  rw [w_setFld h.ins]
  exact ⟨fun h => h.2, fun k => ⟨⟨hF _ (by decide), by show 24 < 900; decide⟩, k⟩⟩
theorem TT.p_made (h : TT M t lt S) {x : Int} : TT (mset M t (.ins 0 (Tb.ins { S with made := x } lt))) t lt { S with made := x } := ⟨h.inj, h.ne, mset_same, fun i => by rw [mset_ne (h.ne i)]; exact (h.box i).trans (by cases i <;> rfl)⟩
theorem TT.w_sent (h : TT M t lt S) (hF : FlT P) {x : Int} : wpSetFld P (.ref t) "sent" (.int x) M km ↔ km (mset M t (.ins 0 (Tb.ins { S with sent := x } lt))) := by
  rw [w_setFld h.ins]
  exact ⟨fun h => h.2, fun k => ⟨⟨hF _ (by decide), by show 24 < 900; decide⟩, k⟩⟩
theorem TT.p_sent (h : TT M t lt S) {x : Int} : TT (mset M t (.ins 0 (Tb.ins { S with sent := x } lt))) t lt { S with sent := x } := ⟨h.inj, h.ne, mset_same, fun i => by rw [mset_ne (h.ne i)]; exact (h.box i).trans (by cases i <;> rfl)⟩
theorem TT.w_asked (h : TT M t lt S) (hF : FlT P) {x : Int} : wpSetFld P (.ref t) "asked" (.int x) M km ↔ km (mset M t (.ins 0 (Tb.ins { S with asked := x } lt))) := by
  rw [w_setFld h.ins]
  exact ⟨fun h => h.2, fun k => ⟨⟨hF _ (by decide), by show 24 < 900; decide⟩, k⟩⟩
theorem TT.p_asked (h : TT M t lt S) {x : Int} : TT (mset M t (.ins 0 (Tb.ins { S with asked := x } lt))) t lt { S with asked := x } := ⟨h.inj, h.ne, mset_same, fun i => by rw [mset_ne (h.ne i)]; exact (h.box i).trans (by cases i <;> rfl)⟩
theorem SS.w_made (h : SS M s ls S) {x : Int} : wpSetIx (.ref s) (.str "made") (.int x) M km ↔ km (mset M s (.dct (Tb.dct { S with made := x } ls))) := by
  rw [w_setD h.dct]
  exact ⟨fun h => h.2, fun k => ⟨⟨rfl, by show 23 < PySem.sizeLine; decide⟩, k⟩⟩
theorem SS.p_made (h : SS M s ls S) {x : Int} : SS (mset M s (.dct (Tb.dct { S with made := x } ls))) s ls { S with made := x } := ⟨h.inj, h.ne, mset_same, fun i n => by rw [mset_ne (h.ne i n)]; exact (h.box i n).trans (by cases i <;> rfl)⟩
theorem SS.w_sent (h : SS M s ls S) {x : Int} : wpSetIx (.ref s) (.str "sent") (.int x) M km ↔ km (mset M s (.dct (Tb.dct { S with sent := x } ls))) := by
  rw [w_setD h.dct]
  exact ⟨fun h => h.2, fun k => ⟨⟨rfl, by show 23 < PySem.sizeLine; decide⟩, k⟩⟩
theorem SS.p_sent (h : SS M s ls S) {x : Int} : SS (mset M s (.dct (Tb.dct { S with sent := x } ls))) s ls { S with sent := x } := ⟨h.inj, h.ne, mset_same, fun i n => by rw [mset_ne (h.ne i n)]; exact (h.box i n).trans (by cases i <;> rfl)⟩
theorem SS.w_asked (h : SS M s ls S) {x : Int} : wpSetIx (.ref s) (.str "asked") (.int x) M km ↔ km (mset M s (.dct (Tb.dct { S with asked := x } ls))) := by
  rw [w_setD h.dct]
  exact ⟨fun h => h.2, fun k => ⟨⟨rfl, by show 23 < PySem.sizeLine; decide⟩, k⟩⟩
theorem SS.p_asked (h : SS M s ls S) {x : Int} : SS (mset M s (.dct (Tb.dct { S with asked := x } ls))) s ls { S with asked := x } := ⟨h.inj, h.ne, mset_same, fun i n => by rw [mset_ne (h.ne i n)]; exact (h.box i n).trans (by cases i <;> rfl)⟩
theorem SS.w_top (h : SS M s ls S) {x : Int} : wpSetIx (.ref s) (.str "top") (.int x) M km ↔ km (mset M s (.dct (Tb.dct { S with top := x } ls))) := by
  rw [w_setD h.dct]
  exact ⟨fun h => h.2, fun k => ⟨⟨rfl, by show 23 < PySem.sizeLine; decide⟩, k⟩⟩
theorem SS.p_top (h : SS M s ls S) {x : Int} : SS (mset M s (.dct (Tb.dct { S with top := x } ls))) s ls { S with top := x } := ⟨h.inj, h.ne, mset_same, fun i n => by rw [mset_ne (h.ne i n)]; exact (h.box i n).trans (by cases i <;> rfl)⟩
end
end L3
end
section
set_option autoImplicit false
set_option linter.all false
set_option maxRecDepth 100000
/-! L3: small data, weights, references -/
namespace L3
open PySem (Addr Str PyData NestedKey)

/-! ### small data: ints below 2 ^ 60, texts, tuples of such -/
mutual
def D.sm : D → Bool
  | .non => true
  | .bl _ => true
  | .int i => decide (i.natAbs < 2 ^ 60)
  | .str x => x.cps.toList.all fun c => decide (c < 16 ^ 8)
  | .tup ds => D.sms ds
  | _ => false
def D.sms : List D → Bool
  | [] => true
  | d :: ds => d.sm && D.sms ds
end
mutual
/-- how much text it takes -/
def D.bk : D → Nat
  | .str x => x.cps.size
  | .tup ds => D.bks ds
  | _ => 0
def D.bks : List D → Nat
  | [] => 0
  | d :: ds => d.bk + 1 + D.bks ds
end
mutual
def D.dp : D → Nat
  | .tup ds => D.dps ds + 1
  | _ => 0
def D.dps : List D → Nat
  | [] => 0
  | d :: ds => max d.dp (D.dps ds)
end
mutual
/-- data of which == says what it is -/
def D.ex : D → Bool
  | .int _ => true
  | .str _ => true
  | .tup ds => D.exs ds
  | _ => false
def D.exs : List D → Bool
  | [] => true
  | d :: ds => d.ex && D.exs ds
end
theorem band_e {a b : Bool} (h : (a && b) = true) : a = true ∧ b = true := by rw [Bool.and_eq_true] at h; exact h
theorem band_i {a b : Bool} (h1 : a = true) (h2 : b = true) : (a && b) = true := by rw [h1, h2]; rfl
mutual
theorem sm_pure : ∀ {d : D}, d.sm = true → d.pure = true
  | .non, _ => rfl
  | .bl _, _ => rfl
  | .int _, _ => rfl
  | .str _, _ => rfl
  | .tup ds, h => sms_pure (ds := ds) h
  | .kt _, h => nomatch h
  | .ref _, h => nomatch h
  | .exn _ _, h => nomatch h
  | .kl _, h => nomatch h
theorem sms_pure : ∀ {ds : List D}, D.sms ds = true → D.pures ds = true
  | [], _ => rfl
  | d :: ds, h => band_i (sm_pure (band_e (a := d.sm) h).1) (sms_pure (band_e (a := d.sm) h).2)
end
mutual
theorem sm_deep {M : Mp} : ∀ {d : D}, d.sm = true → Deep M d d.py
  | .non, _ => .non
  | .bl _, _ => .bl _
  | .int _, _ => .int _
  | .str _, _ => .str _
  | .tup ds, h => .tup (sms_deep (ds := ds) h)
  | .kt _, h => nomatch h
  | .ref _, h => nomatch h
  | .exn _ _, h => nomatch h
  | .kl _, h => nomatch h
theorem sms_deep {M : Mp} : ∀ {ds : List D}, D.sms ds = true → Deeps M ds (D.pys ds)
  | [], _ => .nil
  | d :: ds, h => .cons (sm_deep (band_e (a := d.sm) h).1) (sms_deep (band_e (a := d.sm) h).2)
end
theorem shown_int {i : Int} {k : Nat} (hk : 0 < k) (h : i.natAbs < 2 ^ k) : (PyData.int i).shown.length ≤ k + 1 := by
  show (PySem.Str.ofString (toString i)).length ≤ k + 1
  rw [PySem.ofString_length]
  refine PySem.int_text_length_le hk ?_
  by_cases h0 : i.natAbs = 0
  · rw [h0]; show Nat.log2 0 < k; simpa using hk
  · exact (Nat.log2_lt h0).mpr h
theorem show_int {i : Int} (h : i.natAbs < 2 ^ 60) : (PyData.int i).showable = true ∧ (PyData.int i).leavesShort 64 = true := by
  refine ⟨?_, ?_⟩
  · show decide (i.natAbs.log2 < 1920) = true
    refine decide_eq_true ?_
    by_cases h0 : i.natAbs = 0
    · rw [h0]; decide
    · refine (Nat.log2_lt h0).mpr (Nat.lt_of_lt_of_le h ?_)
      exact Nat.pow_le_pow_right (by decide) (by decide)
  · show decide ((PyData.int i).shown.length ≤ 64) = true
    exact decide_eq_true (Nat.le_trans (shown_int (k := 60) (by decide) h) (by decide))
mutual
theorem sm_show : ∀ {d : D}, d.sm = true → d.py.showable = true ∧ d.py.leavesShort 64 = true
  | .non, _ => ⟨rfl, rfl⟩
  | .bl _, _ => ⟨rfl, rfl⟩
  | .int _, h => show_int (of_decide_eq_true h)
  | .str _, h => ⟨rfl, h⟩
  | .tup ds, h => sms_show (ds := ds) h
  | .kt _, h => nomatch h
  | .ref _, h => nomatch h
  | .exn _ _, h => nomatch h
  | .kl _, h => nomatch h
theorem sms_show : ∀ {ds : List D}, D.sms ds = true → PyData.showableAll (D.pys ds) = true ∧ PyData.leavesShortAll 64 (D.pys ds) = true
  | [], _ => ⟨rfl, rfl⟩
  | d :: ds, h =>
    have a := sm_show (band_e (a := d.sm) h).1
    have b := sms_show (band_e (a := d.sm) h).2
    ⟨band_i a.1 b.1, band_i a.2 b.2⟩
end
mutual
theorem bk_py : ∀ {d : D}, d.sm = true → d.py.bulk = d.bk
  | .non, _ => rfl
  | .bl _, _ => rfl
  | .int _, _ => rfl
  | .str _, _ => rfl
  | .tup ds, h => bks_py (ds := ds) h
  | .kt _, h => nomatch h
  | .ref _, h => nomatch h
  | .exn _ _, h => nomatch h
  | .kl _, h => nomatch h
theorem bks_py : ∀ {ds : List D}, D.sms ds = true → PyData.bulkAll (D.pys ds) = D.bks ds
  | [], _ => rfl
  | d :: ds, h => by
    show d.py.bulk + 1 + PyData.bulkAll (D.pys ds) = d.bk + 1 + D.bks ds
    rw [bk_py (band_e (a := d.sm) h).1, bks_py (band_e (a := d.sm) h).2]
end
mutual
theorem dp_py : ∀ {d : D}, d.sm = true → d.py.depth = d.dp
  | .non, _ => rfl
  | .bl _, _ => rfl
  | .int _, _ => rfl
  | .str _, _ => rfl
  | .tup ds, h => by
    show PyData.depthAll (D.pys ds) + 1 = D.dps ds + 1
    rw [dps_py (ds := ds) h]
  | .kt _, h => nomatch h
  | .ref _, h => nomatch h
  | .exn _ _, h => nomatch h
  | .kl _, h => nomatch h
theorem dps_py : ∀ {ds : List D}, D.sms ds = true → PyData.depthAll (D.pys ds) = D.dps ds
  | [], _ => rfl
  | d :: ds, h => by
    show max d.py.depth (PyData.depthAll (D.pys ds)) = max d.dp (D.dps ds)
    rw [dp_py (band_e (a := d.sm) h).1, dps_py (band_e (a := d.sm) h).2]
end
mutual
theorem dp_key : ∀ {d : D}, d.sm = true → d.key.depth = d.dp
  | .non, _ => rfl
  | .bl _, _ => rfl
  | .int _, _ => rfl
  | .str _, _ => rfl
  | .tup ds, h => by
    show NestedKey.depthAll (D.keys ds) + 1 = D.dps ds + 1
    rw [dps_key (ds := ds) h]
  | .kt _, h => nomatch h
  | .ref _, h => nomatch h
  | .exn _ _, h => nomatch h
  | .kl _, h => nomatch h
theorem dps_key : ∀ {ds : List D}, D.sms ds = true → NestedKey.depthAll (D.keys ds) = D.dps ds
  | [], _ => rfl
  | d :: ds, h => by
    show max d.key.depth (NestedKey.depthAll (D.keys ds)) = max d.dp (D.dps ds)
    rw [dp_key (band_e (a := d.sm) h).1, dps_key (band_e (a := d.sm) h).2]
end
theorem sm_flat {d : D} (h : d.sm = true) (hd : d.dp ≤ 8) : d.flat = true := band_i (sm_pure h) (decide_eq_true (by rw [dp_key h]; exact hd))
theorem sm_hkT {ds : List D} (h : D.sms ds = true) (hd : D.dps ds + 1 ≤ 8) : (D.tup ds).hkT = true := band_i (sms_pure h) (decide_eq_true (by rw [dp_key (d := .tup ds) h]; exact hd))
mutual
theorem ex_key : ∀ {x y : D}, x.ex = true → y.ex = true → x.key = y.key → x = y
  | .int i, .int j, _, _, e => by cases e; rfl
  | .str i, .str j, _, _, e => by cases e; rfl
  | .int i, .str j, _, _, e => nomatch e
  | .str i, .int j, _, _, e => nomatch e
  | .int i, .tup j, _, _, e => nomatch e
  | .tup i, .int j, _, _, e => nomatch e
  | .str i, .tup j, _, _, e => nomatch e
  | .tup i, .str j, _, _, e => nomatch e
  | .tup ds, .tup es, h1, h2, e => by
    have : D.keys ds = D.keys es := by
      have e' : NestedKey.tup (D.keys ds) = .tup (D.keys es) := e
      exact NestedKey.tup.inj e'
    rw [exs_key (ds := ds) (es := es) h1 h2 this]
  | .non, _, h, _, _ => nomatch h
  | .bl _, _, h, _, _ => nomatch h
  | .kt _, _, h, _, _ => nomatch h
  | .ref _, _, h, _, _ => nomatch h
  | .exn _ _, _, h, _, _ => nomatch h
  | .kl _, _, h, _, _ => nomatch h
  | _, .non, _, h, _ => nomatch h
  | _, .bl _, _, h, _ => nomatch h
  | _, .kt _, _, h, _ => nomatch h
  | _, .ref _, _, h, _ => nomatch h
  | _, .exn _ _, _, h, _ => nomatch h
  | _, .kl _, _, h, _ => nomatch h
theorem exs_key : ∀ {ds es : List D}, D.exs ds = true → D.exs es = true → D.keys ds = D.keys es → ds = es
  | [], [], _, _, _ => rfl
  | [], _ :: _, _, _, e => nomatch e
  | _ :: _, [], _, _, e => nomatch e
  | d :: ds, c :: es, h1, h2, e => by
    have e' : d.key :: D.keys ds = c.key :: D.keys es := e
    rw [ex_key (band_e (a := d.ex) h1).1 (band_e (a := c.ex) h2).1 (List.cons.inj e').1, exs_key (band_e (a := d.ex) h1).2 (band_e (a := c.ex) h2).2 (List.cons.inj e').2]
end
theorem eqv_ex {x y : D} (hx : x.ex = true) (hy : y.ex = true) : x.eqv y = true ↔ x = y := by
  constructor
  · exact fun h => ex_key hx hy (NestedKey.eq_of_beq _ _ h)
  · rintro rfl; exact eqv_refl x
theorem eqv_symm {x y : D} (h : x.eqv y = true) : y.eqv x = true := by
  have e := NestedKey.eq_of_beq _ _ h
  show NestedKey.beq y.key x.key = true
  rw [e]; exact NestedKey.beq_self _
theorem eqv_trans {x y z : D} (h : x.eqv y = true) (h2 : y.eqv z = true) : x.eqv z = true := by
  have e := NestedKey.eq_of_beq _ _ h
  show NestedKey.beq x.key z.key = true
  rw [e]; exact h2
/-! several at once -/
theorem sms_all {ds : List D} : D.sms ds = true ↔ ∀ d ∈ ds, d.sm = true := by
  induction ds with
  | nil => exact ⟨fun _ _ h => absurd h List.not_mem_nil, fun _ => rfl⟩
  | cons d ds ih =>
    constructor
    · intro h x hx
      have h' := band_e (a := d.sm) h
      rcases List.mem_cons.mp hx with rfl | hx
      · exact h'.1
      · exact ih.mp h'.2 x hx
    · exact fun h => band_i (h d List.mem_cons_self) (ih.mpr fun x hx => h x (List.mem_cons_of_mem _ hx))
theorem bks_app {a b : List D} : D.bks (a ++ b) = D.bks a + D.bks b := by
  induction a with
  | nil => simp [D.bks]
  | cons d a ih => rw [List.cons_append, D.bks, D.bks, ih]; omega
theorem bks_le {n : Nat} {ds : List D} (h : ∀ d ∈ ds, d.bk ≤ n) : D.bks ds ≤ (n + 1) * ds.length := by
  induction ds with
  | nil => simp [D.bks]
  | cons d ds ih =>
    have := h d List.mem_cons_self
    have := ih fun x hx => h x (List.mem_cons_of_mem _ hx)
    rw [D.bks, List.length_cons, Nat.mul_succ]; omega
theorem dps_le {n : Nat} {ds : List D} (h : ∀ d ∈ ds, d.dp ≤ n) : D.dps ds ≤ n := by
  induction ds with
  | nil => simp [D.dps]
  | cons d ds ih =>
    have := h d List.mem_cons_self
    have := ih fun x hx => h x (List.mem_cons_of_mem _ hx)
    rw [D.dps]; omega

/-! ### weights -/
/-- a pair brought to its lowest form -/
def low : Int → Nat → Int × Nat
  | n, 0 => (n, 0)
  | n, e + 1 => if n % 2 = 0 then low (n / 2) e else (n, e + 1)
theorem low_zero : ∀ e : Nat, low 0 e = (0, 0)
  | 0 => rfl
  | e + 1 => by
    unfold low
    rw [if_pos (by decide)]
    exact low_zero e
theorem low_even {n : Int} {e : Nat} (h : n % 2 = 0) : low n (e + 1) = low (n / 2) e := by
  rw [low, if_pos h]
theorem low_odd {n : Int} {e : Nat} (h : ¬ n % 2 = 0) : low n e = (n, e) := by
  cases e with
  | zero => rfl
  | succ e => rw [low, if_neg h]
theorem low_le : ∀ (e : Nat) (n : Int), (low n e).2 ≤ e
  | 0, n => Nat.le_refl _
  | e + 1, n => by
    unfold low
    split
    · exact Nat.le_succ_of_le (low_le e _)
    · exact Nat.le_refl _
abbrev W := Int × Nat
def pr (x : W) : D := .tup [.int x.1, .int x.2]
def halfW (x : W) : W := low x.1 (x.2 + 1)
def upW (x : W) (E : Nat) : Int := x.1 * 2 ^ (E - x.2)
def addW (x y : W) : W := low (upW x (max x.2 y.2) + upW y (max x.2 y.2)) (max x.2 y.2)
def subW (x y : W) : W := low (upW x (max x.2 y.2) - upW y (max x.2 y.2)) (max x.2 y.2)
/-- a weight no greater than V, its exponent no greater than K -/
def WOk (V K : Nat) (x : W) : Prop := x.1.natAbs ≤ V * 2 ^ x.2 ∧ x.2 ≤ K
theorem WOk.mono {V K V' K' : Nat} {x : W} (h : WOk V K x) (h1 : V ≤ V') (h2 : K ≤ K') : WOk V' K' x := ⟨Nat.le_trans h.1 (Nat.mul_le_mul_right _ h1), Nat.le_trans h.2 h2⟩
theorem low_ok {V : Nat} : ∀ (e : Nat) (n : Int), n.natAbs ≤ V * 2 ^ e → WOk V e (low n e)
  | 0, n, h => ⟨h, Nat.le_refl _⟩
  | e + 1, n, h => by
    unfold low
    split
    · rename_i h2
      have h3 : (n / 2).natAbs ≤ V * 2 ^ e := by
        rw [Nat.pow_succ, ← Nat.mul_assoc] at h
        omega
      exact (low_ok e (n / 2) h3).mono (Nat.le_refl _) (Nat.le_succ _)
    · exact ⟨h, Nat.le_refl _⟩
theorem upW_ok {V K E : Nat} {x : W} (h : WOk V K x) (hE : x.2 ≤ E) : (upW x E).natAbs ≤ V * 2 ^ E := by
  unfold upW
  rw [Int.natAbs_mul, Int.natAbs_pow]
  calc x.1.natAbs * 2 ^ (E - x.2) ≤ V * 2 ^ x.2 * 2 ^ (E - x.2) := Nat.mul_le_mul_right _ h.1
    _ = V * 2 ^ E := by rw [Nat.mul_assoc, ← Nat.pow_add, show x.2 + (E - x.2) = E by omega]
theorem halfW_ok {V K : Nat} {x : W} (h : WOk V K x) : WOk V (K + 1) (halfW x) := by
  refine (low_ok (V := V) (x.2 + 1) x.1 ?_).mono (Nat.le_refl _) (by have := h.2; omega)
  rw [Nat.pow_succ, ← Nat.mul_assoc]
  have := h.1
  omega
theorem addW_ok {V K V' K' : Nat} {x y : W} (h : WOk V K x) (h' : WOk V' K' y) : WOk (V + V') (max K K') (addW x y) := by
  have a := upW_ok (E := max x.2 y.2) h (Nat.le_max_left _ _)
  have b := upW_ok (E := max x.2 y.2) h' (Nat.le_max_right _ _)
  refine (low_ok (V := V + V') _ _ ?_).mono (Nat.le_refl _) (by have := h.2; have := h'.2; omega)
  rw [Nat.add_mul]
  omega
theorem subW_ok {V K V' K' : Nat} {x y : W} (h : WOk V K x) (h' : WOk V' K' y) : WOk (V + V') (max K K') (subW x y) := by
  have a := upW_ok (E := max x.2 y.2) h (Nat.le_max_left _ _)
  have b := upW_ok (E := max x.2 y.2) h' (Nat.le_max_right _ _)
  refine (low_ok (V := V + V') _ _ ?_).mono (Nat.le_refl _) (by have := h.2; have := h'.2; omega)
  rw [Nat.add_mul]
  omega
theorem WOk.lt {V K : Nat} {x : W} (h : WOk V K x) (hV : V ≤ 2 ^ 20) (hK : K ≤ 39) : x.1.natAbs < 2 ^ 60 ∧ x.2 ≤ 39 := by
  refine ⟨?_, Nat.le_trans h.2 hK⟩
  have h1 : (2 : Nat) ^ x.2 ≤ 2 ^ 39 := Nat.pow_le_pow_right (by decide) (Nat.le_trans h.2 hK)
  calc x.1.natAbs ≤ V * 2 ^ x.2 := h.1
    _ ≤ 2 ^ 20 * 2 ^ 39 := Nat.mul_le_mul hV h1
    _ < 2 ^ 60 := by decide
theorem pr_sm {V K : Nat} {x : W} (h : WOk V K x) (hV : V ≤ 2 ^ 20) (hK : K ≤ 39) : (pr x).sm = true := by
  obtain ⟨a, b⟩ := h.lt hV hK
  refine band_i (decide_eq_true a) (band_i (decide_eq_true ?_) rfl)
  have : (39 : Nat) < 2 ^ 60 := by decide
  omega
/-- a weight is told from another -/
theorem pr_ex (x : W) : (pr x).ex = true := rfl
theorem pr_inj {x y : W} (h : pr x = pr y) : x = y := by
  cases x; cases y
  simp only [pr, D.tup.injEq, List.cons.injEq, D.int.injEq, and_true] at h
  rw [h.1, Int.ofNat_inj.mp h.2]

/-! ### dicts -/
theorem dget_put {kvs : List (D × D)} {k v x : D} (hx : x.eqv k = true) : dget (dput kvs k v) x = some v := by
  unfold dput
  split
  · rename_i h
    unfold dget
    induction kvs with
    | nil => exact absurd h (by simp [dhas])
    | cons p r ih =>
      rw [List.map_cons, List.find?_cons]
      by_cases e : p.1.eqv k = true
      · rw [if_pos e]
        have : p.1.eqv x = true := eqv_trans e (eqv_symm hx)
        simp only [this]; rfl
      · rw [if_neg e]
        have n : ¬ p.1.eqv x = true := fun z => e (eqv_trans z hx)
        simp only [Bool.not_eq_true] at n
        simp only [n]
        refine ih ?_
        unfold dhas at h ⊢
        rw [List.any_cons] at h
        simpa [e] using h
  · rename_i h
    unfold dget
    rw [List.find?_append]
    have : kvs.find? (fun p => p.1.eqv x) = none := by
      rw [List.find?_eq_none]
      intro p hp z
      refine h ?_
      unfold dhas
      rw [List.any_eq_true]
      exact ⟨p, hp, eqv_trans z hx⟩
    rw [this]
    simp [eqv_symm hx]
theorem dget_put_ne {kvs : List (D × D)} {k v x : D} (hx : ¬ x.eqv k = true) : dget (dput kvs k v) x = dget kvs x := by
  unfold dput
  split
  · unfold dget
    congr 1
    have : ∀ l : List (D × D), ((l.map fun p => if p.1.eqv k = true then (p.1, v) else p).find? fun p => p.1.eqv x) = (l.find? fun p => p.1.eqv x) := by
      intro l
      induction l with
      | nil => rfl
      | cons p r ih =>
        rw [List.map_cons, List.find?_cons, List.find?_cons]
        by_cases e : p.1.eqv k = true
        · rw [if_pos e]
          have : p.1.eqv x = false := by
            rw [Bool.eq_false_iff]; exact fun z => hx (eqv_trans (eqv_symm z) e)
          simp only [this]; exact ih
        · rw [if_neg e, ih]
    exact this kvs
  · unfold dget
    rw [List.find?_append]
    cases kvs.find? fun p => p.1.eqv x with
    | some q => rfl
    | none =>
      have : k.eqv x = false := by rw [Bool.eq_false_iff]; exact fun z => hx (eqv_symm z)
      simp [this]
theorem dhas_iff {kvs : List (D × D)} {k : D} : dhas kvs k = true ↔ ∃ v, dget kvs k = some v := by
  unfold dhas dget
  rw [List.any_eq_true]
  constructor
  · rintro ⟨p, hp, e⟩
    cases h : kvs.find? fun p => p.1.eqv k with
    | some q => exact ⟨q.2, rfl⟩
    | none => exact absurd e (List.find?_eq_none.mp h p hp)
  · rintro ⟨v, h⟩
    cases h2 : kvs.find? fun p => p.1.eqv k with
    | some q => exact ⟨q, List.mem_of_find?_eq_some h2, (List.find?_some h2 :)⟩
    | none => rw [h2] at h; cases h
theorem dget_mem {kvs : List (D × D)} {k v : D} (h : dget kvs k = some v) : ∃ p ∈ kvs, p.1.eqv k = true ∧ p.2 = v := by
  unfold dget at h
  cases h2 : kvs.find? fun p => p.1.eqv k with
  | some q => rw [h2] at h; cases h; exact ⟨q, List.mem_of_find?_eq_some h2, (List.find?_some h2 :), rfl⟩
  | none => rw [h2] at h; cases h
/-- what holds of every pair -/
def Pairs (K V : D → Prop) (kvs : List (D × D)) : Prop := ∀ p ∈ kvs, K p.1 ∧ V p.2
theorem Pairs.put {K V : D → Prop} {kvs : List (D × D)} {k v : D} (h : Pairs K V kvs) (hk : K k) (hv : V v) : Pairs K V (dput kvs k v) := by
  unfold dput
  split
  · intro p hp
    obtain ⟨q, hq, e⟩ := List.mem_map.mp hp
    split at e
    · subst e; exact ⟨(h q hq).1, hv⟩
    · subst e; exact h q hq
  · intro p hp
    rcases List.mem_append.mp hp with hp | hp
    · exact h p hp
    · rw [List.mem_singleton] at hp; subst hp; exact ⟨hk, hv⟩
theorem Pairs.del {K V : D → Prop} {kvs : List (D × D)} {k : D} (h : Pairs K V kvs) : Pairs K V (ddel kvs k) := fun p hp => h p (List.mem_filter.mp hp).1
theorem Pairs.get {K V : D → Prop} {kvs : List (D × D)} {k v : D} (h : Pairs K V kvs) (e : dget kvs k = some v) : V v := by
  obtain ⟨p, hp, _, rfl⟩ := dget_mem e
  exact (h p hp).2
theorem dput_len {kvs : List (D × D)} {k v : D} : (dput kvs k v).length ≤ kvs.length + 1 := by
  unfold dput
  split
  · rw [List.length_map]; omega
  · simp
theorem ddel_len {kvs : List (D × D)} {k : D} : (ddel kvs k).length ≤ kvs.length := List.length_filter_le _ _
end L3
end
section
set_option autoImplicit false
set_option linter.all false
set_option maxRecDepth 100000
/-! L3: more readings -/
namespace L3
open PySem (Addr Str PyData NestedKey)
section
variable {P : Pr} {M : Mp} {Q : Post} {k : Bool → Prop} {a : Addr} {kvs : List (D × D)} {x y z v d : D} {R : ItR} {km : Mp → Prop} {ds es : List D}
theorem w_rcvD (h : M a = some (.dct kvs)) : rcv (.ref a) M = some .dct := by simp only [rcv, h]
theorem w_rcvT (h : M a = some (.dcT kvs)) : rcv (.ref a) M = some .dct := by simp only [rcv, h]
theorem w_rcvLt (h : M a = some (.lst ds)) : rcv (.ref a) M = some .lst := by simp only [rcv, h]
theorem w_ixT (h : M a = some (.dcT kvs)) : wpIx (.ref a) y M Q ↔ y.hkT = true ∧ ∃ d, dget kvs y = some d ∧ Q d M := by cases y <;> simp only [wpIx, h]
theorem w_ixLkT (h : M a = some (.lkT kvs)) : wpIx (.ref a) y M Q ↔ y.hkT = true ∧ ∃ d, dget kvs y = some d ∧ Q d M := by cases y <;> simp only [wpIx, h]
theorem w_inT (h : M a = some (.dcT kvs)) : wpIn y (.ref a) M k ↔ y.hkT = true ∧ k (dhas kvs y) := by simp only [wpIn, h]
theorem w_setT (h : M a = some (.dcT kvs)) : wpSetIx (.ref a) y v M km ↔ (y.hkT = true ∧ kvs.length < PySem.sizeLine) ∧ km (mset M a (.dcT (dput kvs y v))) := by cases y <;> simp only [wpSetIx, h]
theorem w_getD (h : M a = some (.dct kvs)) : wpMth .get (.ref a) [y, z] M Q ↔ y.hk1 = true ∧ Q ((dget kvs y).getD z) M := by
  simp only [wpMth, h, wpDm, MO.dk]
  constructor
  · rintro ⟨l, e, q⟩
    split at e
    · cases e; exact ⟨by assumption, q⟩
    · cases e
  · rintro ⟨h1, q⟩; exact ⟨kvs, by rw [if_pos h1], q⟩
theorem w_getT (h : M a = some (.dcT kvs)) : wpMth .get (.ref a) [y, z] M Q ↔ y.hkT = true ∧ Q ((dget kvs y).getD z) M := by
  simp only [wpMth, h, wpDm, MO.dk]
  constructor
  · rintro ⟨l, e, q⟩
    split at e
    · cases e; exact ⟨by assumption, q⟩
    · cases e
  · rintro ⟨h1, q⟩; exact ⟨kvs, by rw [if_pos h1], q⟩
theorem w_popT (h : M a = some (.dcT kvs)) : wpMth .pop (.ref a) [y] M Q ↔ y.hkT = true ∧ ∃ d, dget kvs y = some d ∧ Q d (mset M a (.dcT (ddel kvs y))) := by simp only [wpMth, h, wpDm]
theorem w_delT (h : M a = some (.dcT kvs)) : wpDel (.ref a) y M km ↔ (y.hkT = true ∧ dhas kvs y = true) ∧ km (mset M a (.dcT (ddel kvs y))) := by simp only [wpDel, h]
theorem w_lenDt (h : M a = some (.dct kvs)) : wpBlt .len [.ref a] M Q ↔ Q (.int kvs.length) M := by simp only [wpBlt, h]
theorem w_lenTt (h : M a = some (.dcT kvs)) : wpBlt .len [.ref a] M Q ↔ Q (.int kvs.length) M := by simp only [wpBlt, h]
theorem w_itT (h : M a = some (.dcT kvs)) : wpIt .plain [.ref a] M R ↔ wpItT (·.map (·.1)) a kvs M R := by simp only [wpIt, h]
theorem w_listT (h : M a = some (.dcT kvs)) : wpBlt .list [.ref a] M Q ↔ wpNew M (.lst (kvs.map (·.1))) Q := by simp only [wpBlt, h]
theorem w_listL (h : M a = some (.lst ds)) : wpBlt .list [.ref a] M Q ↔ wpNew M (.lst ds) Q := by simp only [wpBlt, h]
theorem w_tupL (h : M a = some (.lst ds)) : wpBlt .tuple [.ref a] M Q ↔ Q (.tup ds) M := by simp only [wpBlt, h]
theorem w_liT (h : M a = some (.dcT kvs)) : wpSeq .list .items [.ref a] M Q ↔ wpNew M (.lst (kvs.map pairD)) Q := by simp only [wpSeq, h]
theorem w_siD (h : M a = some (.dct kvs)) : wpSeq .sorted .items [.ref a] M Q ↔ PairsOk kvs ∧ wpNew M (.lst ((srtP kvs).map pairD)) Q := by simp only [wpSeq, h]
theorem w_siT (h : M a = some (.dcT kvs)) : wpSeq .sorted .items [.ref a] M Q ↔ PairsOk kvs ∧ wpNew M (.lst ((srtP kvs).map pairD)) Q := by simp only [wpSeq, h]
theorem w_slL {lo hi : D} (h : M a = some (.lst ds)) : wpSl (.ref a) lo hi M Q ↔ (lo.ion = true ∧ hi.ion = true) ∧ wpNew M (.lst (cut ds lo hi)) Q := by simp only [wpSl, h]
theorem w_slT {lo hi : D} : wpSl (.tup ds) lo hi M Q ↔ (lo.ion = true ∧ hi.ion = true) ∧ Q (.tup (cut ds lo hi)) M := Iff.rfl
theorem w_popLi {i : Int} (h : M a = some (.lst ds)) : wpMth .pop (.ref a) [.int i] M Q ↔ ∃ d, 0 ≤ i ∧ ds[i.toNat]? = some d ∧ Q d (mset M a (.lst (ds.eraseIdx i.toNat))) := by simp only [wpMth, h]
theorem w_enumL (h : M a = some (.lst ds)) : wpIt .enumerate [.ref a] M R ↔ R (enumD ds) (fun M' => M' a = some (.lst ds)) M id := by simp only [wpIt, h]
theorem w_itTup : wpIt .plain [.tup ds] M R ↔ R ds (fun _ => True) M id := Iff.rfl
theorem w_ixTup {i : Int} : wpIx (.tup ds) (.int i) M Q ↔ ∃ d, atD ds i = some d ∧ Q d M := Iff.rfl
theorem w_inTup : wpIn x (.tup ds) M k ↔ (x.flat = true ∧ ∀ d ∈ ds, d.flat = true) ∧ k (ds.any fun z => z.eqv x) := Iff.rfl
theorem w_eqT : wpEq (.tup ds) (.tup es) M k ↔ ((D.tup ds).flat = true ∧ (D.tup es).flat = true) ∧ k ((D.tup ds).eqv (.tup es)) := Iff.rfl
theorem w_eqc : wpCmp .eq x y M k ↔ wpEq x y M k := Iff.rfl
theorem w_nec : wpCmp .ne x y M k ↔ wpEq x y M fun b => k (!b) := Iff.rfl
theorem w_isN : wpCmp .is x .non M k ↔ k x.isNon := by cases x <;> exact Iff.rfl
theorem w_isNN : wpCmp .isNot x .non M k ↔ k (!x.isNon) := by cases x <;> exact Iff.rfl
theorem w_neS {x y : Str} : wpCmp .ne (.str x) (.str y) M k ↔ k (!decide (x = y)) := by
  show (_ ∧ k (!((D.str x).eqv (.str y)))) ↔ _
  rw [eqv_str]
  exact ⟨fun h => h.2, fun h => ⟨⟨rfl, rfl⟩, h⟩⟩
theorem w_intB {b : Bool} : wpBlt .int [.bl b] M Q ↔ Q (.int (if b = true then 1 else 0)) M := Iff.rfl
theorem w_shl {i j : Int} : wpBin .shl (.int i) (.int j) M Q ↔ (0 ≤ j ∧ j ≤ 1000000 ∧ i.natAbs < 2 ^ 1000) ∧ Q (.int (i * 2 ^ j.toNat)) M := Iff.rfl

end
theorem mokG : mok (some .dct) .get = true := rfl
theorem mokP : mok (some .dct) .pop = true := rfl
theorem mokA : mok (some .lst) .append = true := rfl
theorem mokE : mok (some .lst) .extend = true := rfl
theorem mokL : mok (some .lst) .pop = true := rfl
theorem mokS : mok (some .str) .index = true := rfl
theorem w_manyL {M : Mp} {a : Addr} {ds : List D} {l : List Nat} {σ : Lo} {kl : Lo → Prop} (h : M a = some (.lst ds)) : wpTg (.many l) (.ref a) σ M kl ↔ ∃ σ', setMany l ds σ = some σ' ∧ kl σ' := by simp only [wpTg, h]
/-- a comprehension that changes nothing -/
theorem compL_pure {body : D → Mp → (Option D → Mp → Prop) → Prop} {G : Mp → Prop} {M : Mp} (g : D → Option D) {Q : List D → Mp → Prop} (hG : G M) :
    ∀ {xs acc : List D}, (∀ x ∈ xs, ∀ kk : Option D → Mp → Prop, kk (g x) M → body x M kk) → acc.length + xs.length ≤ PySem.sizeLine → Q (acc ++ xs.filterMap g) M → compL body G xs acc M Q
  | [], acc, _, _, q => ⟨hG, by simpa using q⟩
  | x :: xs, acc, hb, hl, q => by
    rw [List.length_cons] at hl
    refine ⟨hG, hb x List.mem_cons_self _ ?_⟩
    cases e : g x with
    | none => exact compL_pure g hG (fun y hy => hb y (List.mem_cons_of_mem _ hy)) (by omega) (by rwa [List.filterMap_cons, e] at q)
    | some d =>
      refine ⟨by omega, compL_pure g hG (fun y hy => hb y (List.mem_cons_of_mem _ hy)) (by rw [List.length_append]; simp; omega) ?_⟩
      rw [List.filterMap_cons, e] at q
      simpa using q
/-- .. each item of which comes in; what holds ahead of each turn -/
theorem compL_inv {body : D → Mp → (Option D → Mp → Prop) → Prop} {G : Mp → Prop} {Q : List D → Mp → Prop} {xs : List D} {M : Mp} (I : Nat → List D → Mp → Prop) (h0 : I 0 [] M) (hl : xs.length ≤ PySem.sizeLine)
    (step : ∀ (i : Nat) (x : D) (acc : List D) (M : Mp) (kk : Option D → Mp → Prop), xs[i]? = some x → I i acc M → (∀ d M', I (i + 1) (acc ++ [d]) M' → kk (some d) M') → G M ∧ body x M kk)
    (done : ∀ acc M, I xs.length acc M → G M ∧ Q acc M) : compL body G xs [] M Q := by
  have go : ∀ (l : List D) (i : Nat) (acc : List D) (M : Mp), xs.drop i = l → i ≤ xs.length → acc.length ≤ i → I i acc M → compL body G l acc M Q := by
    intro l
    induction l with
    | nil =>
      intro i acc M e hi ha h
      have e2 : i = xs.length := by have := List.drop_eq_nil_iff.mp e; omega
      subst e2
      exact done acc M h
    | cons x l ih =>
      intro i acc M e hi ha h
      have hx : xs[i]? = some x := by
        have := congrArg List.head? e
        rw [List.head?_drop] at this
        exact this
      have hl' : xs.drop (i + 1) = l := by
        have := congrArg List.tail e
        rw [List.tail_drop] at this
        exact this
      have hlt : i < xs.length := (List.getElem?_eq_some_iff.mp hx).1
      refine step i x acc M _ hx h fun d M' h' => ⟨by omega, ih (i + 1) (acc ++ [d]) M' hl' hlt (by simp; omega) h'⟩
  exact go xs 0 [] M rfl (Nat.zero_le _) (Nat.le_refl _) h0
/-- a comprehension that changes only what it may, leaving out some -/
theorem compL_pick {body : D → Mp → (Option D → Mp → Prop) → Prop} {G : Mp → Prop} {Q : List D → Mp → Prop} {xs : List D} {M : Mp} (I : Nat → List D → Mp → Prop) (h0 : I 0 [] M) (hl : xs.length ≤ PySem.sizeLine)
    (step : ∀ (i : Nat) (x : D) (acc : List D) (M : Mp) (kk : Option D → Mp → Prop), xs[i]? = some x → I i acc M → (∀ M', I (i + 1) acc M' → kk none M') → (∀ d M', I (i + 1) (acc ++ [d]) M' → kk (some d) M') → G M ∧ body x M kk)
    (done : ∀ acc M, I xs.length acc M → G M ∧ Q acc M) : compL body G xs [] M Q := by
  have go : ∀ (l : List D) (i : Nat) (acc : List D) (M : Mp), xs.drop i = l → i ≤ xs.length → acc.length ≤ i → I i acc M → compL body G l acc M Q := by
    intro l
    induction l with
    | nil =>
      intro i acc M e hi ha h
      have e2 : i = xs.length := by have := List.drop_eq_nil_iff.mp e; omega
      subst e2
      exact done acc M h
    | cons x l ih =>
      intro i acc M e hi ha h
      have hx : xs[i]? = some x := by
        have := congrArg List.head? e
        rw [List.head?_drop] at this
        exact this
      have hl' : xs.drop (i + 1) = l := by
        have := congrArg List.tail e
        rw [List.tail_drop] at this
        exact this
      have hlt : i < xs.length := (List.getElem?_eq_some_iff.mp hx).1
      exact step i x acc M _ hx h (fun M' h' => ih (i + 1) acc M' hl' hlt (by omega) h') fun d M' h' => ⟨by omega, ih (i + 1) (acc ++ [d]) M' hl' hlt (by simp; omega) h'⟩
  exact go xs 0 [] M rfl (Nat.zero_le _) (Nat.le_refl _) h0
/-! an item by its place -/
theorem atD_nat {ds : List D} {i : Nat} {d : D} (h : ds[i]? = some d) : atD ds (i : Int) = some d := by
  unfold atD
  rw [if_pos (by omega)]
  exact h
theorem atD_lt {ds : List D} {i : Int} (h0 : 0 ≤ i) (h : i < ds.length) : ∃ d, atD ds i = some d ∧ d ∈ ds := by
  obtain ⟨n, rfl⟩ := Int.eq_ofNat_of_zero_le h0
  have hn : n < ds.length := by omega
  exact ⟨ds[n], atD_nat (by simp [hn]), List.getElem_mem hn⟩
theorem len_sl {α : Type} {l : List α} {n : Nat} (h : l.length ≤ n) (hn : n ≤ 16000000 := by decide) : l.length ≤ PySem.sizeLine := Nat.le_trans h (Nat.le_trans hn (by show 16000000 ≤ 2 ^ 24; decide))
theorem sl_small (n : Nat) (hn : n ≤ 16000000 := by omega) : n ≤ PySem.sizeLine := Nat.le_trans hn (by show 16000000 ≤ 2 ^ 24; decide)
theorem mul2 {i : Int} : MulOk i 2 := .inr ⟨by decide, by decide⟩
theorem mulK {i j : Int} (h : -(2 ^ 64) < j ∧ j < 2 ^ 64) : MulOk i j := .inr h
theorem sm62 {i : Int} (h0 : -1000000 ≤ i) (h : i ≤ 1000000) : small62 i := ⟨by omega, by omega⟩
/-- the readings, all in one -/
theorem wA : type_of% @w_add ∧ type_of% @w_addS ∧ type_of% @w_addT ∧ type_of% @w_sub ∧ type_of% @w_mul ∧ type_of% @w_fdiv ∧ type_of% @w_mod ∧ type_of% @w_pow ∧ type_of% @w_shl ∧ type_of% @w_iadd ∧ type_of% @w_isub ∧ type_of% @w_neg ∧ type_of% @w_lt ∧ type_of% @w_le ∧ type_of% @w_gt ∧ type_of% @w_ge ∧ type_of% @w_eq ∧ type_of% @w_ne ∧ type_of% @w_in ∧ type_of% @w_nin ∧ type_of% @w_tb ∧ type_of% @w_ti ∧ type_of% @w_tt ∧ type_of% @w_ix0 ∧ type_of% @w_ix1 ∧ type_of% @w_ix2 ∧ type_of% @w_lenT ∧ type_of% @w_lenK ∧ type_of% @w_int ∧ type_of% @w_intB ∧ type_of% @w_max ∧ type_of% @w_min ∧ type_of% @w_rng1 ∧ type_of% @w_rng2 ∧ type_of% @w_one ∧ type_of% @w_ixK ∧ type_of% @w_itS ∧ type_of% @w_lenS ∧ type_of% @w_many ∧ type_of% @w_eqS ∧ type_of% @w_neS ∧ type_of% @w_isN ∧ type_of% @w_isNN ∧ type_of% @w_itTup ∧ type_of% mokG ∧ type_of% mokP ∧ type_of% mokA ∧ type_of% mokE ∧ type_of% mokL ∧ type_of% mokS ∧ type_of% @List.getElem?_cons_zero.{0} ∧ type_of% @List.getElem?_cons_succ.{0} ∧ type_of% @List.set_cons_zero.{0} ∧ type_of% @List.set_cons_succ.{0} ∧ type_of% @Option.some.injEq.{0} ∧ type_of% @exists_eq_left'.{1} ∧ type_of% @decide_eq_true_eq ∧ type_of% Bool.false_eq_true ∧ type_of% @if_false.{1} ∧ type_of% @if_true.{1} ∧ type_of% Bool.not_true ∧ type_of% Bool.not_false ∧ type_of% @true_and :=
  ⟨@w_add, @w_addS, @w_addT, @w_sub, @w_mul, @w_fdiv, @w_mod, @w_pow, @w_shl, @w_iadd, @w_isub, @w_neg, @w_lt, @w_le, @w_gt, @w_ge, @w_eq, @w_ne, @w_in, @w_nin, @w_tb, @w_ti, @w_tt, @w_ix0, @w_ix1, @w_ix2, @w_lenT, @w_lenK, @w_int, @w_intB, @w_max, @w_min, @w_rng1, @w_rng2, @w_one, @w_ixK, @w_itS, @w_lenS, @w_many, @w_eqS, @w_neS, @w_isN, @w_isNN, @w_itTup, mokG, mokP, mokA, mokE, mokL, mokS, @List.getElem?_cons_zero.{0}, @List.getElem?_cons_succ.{0}, @List.set_cons_zero.{0}, @List.set_cons_succ.{0}, @Option.some.injEq.{0}, @exists_eq_left'.{1}, @decide_eq_true_eq, Bool.false_eq_true, @if_false.{1}, @if_true.{1}, Bool.not_true, Bool.not_false, @true_and⟩
end L3
end
section
set_option autoImplicit false
set_option linter.all false
set_option maxRecDepth 100000
/-! L3: what is promised of the tables' text: data that can be told -/
namespace L3
open PySem (Addr Str PyData NestedKey)
open PySem.W (alike alikeAll)

/-! ### small values -/
def Sm (n : Nat) (d : D) : Prop := d.sm = true ∧ d.bk ≤ n ∧ d.dp ≤ 8
theorem Sm.mono {n m : Nat} {d : D} (h : Sm n d) (hm : n ≤ m) : Sm m d := ⟨h.1, Nat.le_trans h.2.1 hm, h.2.2⟩
theorem smt {ds : List D} (h : D.sms ds = true) : (D.tup ds).sm = true := h
theorem smc {d : D} {ds : List D} (h1 : d.sm = true) (h2 : D.sms ds = true) : D.sms (d :: ds) = true := band_i h1 h2
theorem smn : D.sms [] = true := rfl
/-! ### keys -/
def KI (d : D) : Prop := ∃ i : Int, d = .int i ∧ i.natAbs ≤ 1000000
def KP (d : D) : Prop := ∃ i j : Int, d = .tup [.int i, .int j] ∧ i.natAbs ≤ 1000000 ∧ j.natAbs ≤ 1000000
/-- a reference: object or promise, its vat, its number -/
def rf (o : Bool) (v n : Int) : D := .tup [.str (if o = true then "object" else "promise"), .int v, .int n]
def KR (d : D) : Prop := ∃ (o : Bool) (v n : Int), d = rf o v n ∧ v.natAbs ≤ 1000000 ∧ n.natAbs ≤ 1000000
theorem int_sm {i : Int} (h : i.natAbs ≤ 1000000) : (D.int i).sm = true := decide_eq_true (Nat.lt_of_le_of_lt h (by decide))
/-- a channel: a vat, a reference -/
def KC (d : D) : Prop := ∃ (i : Int) (r : D), d = .tup [.int i, r] ∧ i.natAbs ≤ 1000000 ∧ KR r
theorem KI.sm {d : D} (h : KI d) : d.sm = true ∧ d.ex = true ∧ d.bk ≤ 12 ∧ d.dp ≤ 1 ∧ d.hk1 = true := by
  obtain ⟨i, rfl, h⟩ := h
  exact ⟨int_sm h, rfl, Nat.zero_le _, Nat.zero_le _, rfl⟩
theorem KP.sm {d : D} (h : KP d) : d.sm = true ∧ d.ex = true ∧ d.bk ≤ 12 ∧ d.dp ≤ 1 ∧ d.hkT = true := by
  obtain ⟨i, j, rfl, h1, h2⟩ := h
  have s : D.sms [.int i, .int j] = true := band_i (int_sm h1) (band_i (int_sm h2) rfl)
  exact ⟨s, rfl, by show 2 ≤ 12; decide, Nat.le_refl _, sm_hkT s (Nat.le_of_ble_eq_true rfl)⟩
/-- a send, or none yet -/
def KS (d : D) : Prop := KP d ∨ d = .tup []
theorem KS.sm {d : D} (h : KS d) : d.sm = true ∧ d.ex = true ∧ d.bk ≤ 2 ∧ d.dp ≤ 1 ∧ d.hkT = true := by
  rcases h with ⟨i, j, rfl, h1, h2⟩ | rfl
  · have a := KP.sm ⟨i, j, rfl, h1, h2⟩
    exact ⟨a.1, a.2.1, Nat.le_of_ble_eq_true rfl, a.2.2.2.1, a.2.2.2.2⟩
  · exact ⟨rfl, rfl, Nat.le_of_ble_eq_true rfl, Nat.le_of_ble_eq_true rfl, rfl⟩
theorem rf_sm {o : Bool} {v n : Int} (h1 : v.natAbs ≤ 1000000) (h2 : n.natAbs ≤ 1000000) : (rf o v n).sm = true := band_i (by cases o <;> rfl) (band_i (int_sm h1) (band_i (int_sm h2) rfl))
theorem KR.sm {d : D} (h : KR d) : d.sm = true ∧ d.ex = true ∧ d.bk ≤ 12 ∧ d.dp ≤ 1 ∧ d.hkT = true := by
  obtain ⟨o, v, n, rfl, h1, h2⟩ := h
  exact ⟨rf_sm h1 h2, by cases o <;> rfl, by cases o <;> exact Nat.le_of_ble_eq_true rfl, by cases o <;> exact Nat.le_refl _, sm_hkT (rf_sm h1 h2) (by cases o <;> exact Nat.le_of_ble_eq_true rfl)⟩
/-- a kind of keys: all comparable -/
structure KOk (K : D → Prop) : Prop where
  sm : ∀ d, K d → d.sm = true ∧ d.ex = true ∧ d.bk ≤ 20 ∧ d.dp ≤ 2
  al : ∀ d e, K d → K e → alike d.py e.py = true
  nn : ∀ d, K d → d ≠ .non
theorem KI.ok : KOk KI := ⟨fun d h => ⟨h.sm.1, h.sm.2.1, Nat.le_trans h.sm.2.2.1 (by decide), Nat.le_trans h.sm.2.2.2.1 (by decide)⟩, fun d e ⟨i, h, _⟩ ⟨j, h', _⟩ => by subst h; subst h'; rfl, fun d ⟨i, h, _⟩ => by subst h; exact nofun⟩
theorem KP.ok : KOk KP := ⟨fun d h => ⟨h.sm.1, h.sm.2.1, Nat.le_trans h.sm.2.2.1 (by decide), Nat.le_trans h.sm.2.2.2.1 (by decide)⟩, fun d e ⟨i, j, h, _⟩ ⟨i', j', h', _⟩ => by subst h; subst h'; rfl, fun d ⟨i, j, h, _⟩ => by subst h; exact nofun⟩
theorem KR.ok : KOk KR := ⟨fun d h => ⟨h.sm.1, h.sm.2.1, Nat.le_trans h.sm.2.2.1 (by decide), Nat.le_trans h.sm.2.2.2.1 (by decide)⟩, fun d e ⟨o, v, n, h, _⟩ ⟨o', v', n', h', _⟩ => by subst h; subst h'; rfl, fun d ⟨o, v, n, h, _⟩ => by subst h; exact nofun⟩
theorem KC.sm {d : D} (h : KC d) : d.sm = true ∧ d.ex = true ∧ d.bk ≤ 20 ∧ d.dp ≤ 2 ∧ d.hkT = true := by
  obtain ⟨i, r, rfl, h1, h2⟩ := h
  obtain ⟨a, b, c, e, _⟩ := h2.sm
  have s : D.sms [.int i, r] = true := band_i (int_sm h1) (band_i a rfl)
  have e2 : D.dps [.int i, r] ≤ 1 := by show max 0 (max r.dp 0) ≤ 1; omega
  refine ⟨s, (by show (true && (r.ex && true)) = true; rw [b]; rfl), ?_, ?_, sm_hkT s (by omega)⟩
  · show 0 + 1 + (r.bk + 1 + 0) ≤ 20; omega
  · show D.dps [.int i, r] + 1 ≤ 2; omega
theorem KC.ok : KOk KC := ⟨fun d h => ⟨h.sm.1, h.sm.2.1, h.sm.2.2.1, h.sm.2.2.2.1⟩, fun d e ⟨i, r, h, _, hr⟩ ⟨i', r', h', _, hr'⟩ => by subst h; subst h'; show (true && (alike r.py r'.py && true)) = true; rw [KR.ok.al _ _ hr hr']; rfl, fun d ⟨i, r, h, _⟩ => by subst h; exact nofun⟩
mutual
theorem alike_self : ∀ {d : D}, d.sm = true → alike d.py d.py = true
  | .non, _ => rfl
  | .bl _, _ => rfl
  | .int _, _ => rfl
  | .str _, _ => rfl
  | .tup ds, h => alikes_self (ds := ds) h
  | .kt _, h => nomatch h
  | .ref _, h => nomatch h
  | .exn _ _, h => nomatch h
  | .kl _, h => nomatch h
theorem alikes_self : ∀ {ds : List D}, D.sms ds = true → alikeAll (D.pys ds) (D.pys ds) = true
  | [], _ => rfl
  | d :: ds, h => band_i (alike_self (band_e (a := d.sm) h).1) (alikes_self (band_e (a := d.sm) h).2)
end
theorem str_beq {x y : Str} (h : (x == y) = true) : x = y := by simpa using h
mutual
theorem eqv_py : ∀ {x y : D}, x.ex = true → y.ex = true → PyData.eqv x.py y.py = true → x = y
  | .int i, .int j, _, _, e => by rw [eq_of_beq (show (i == j) = true from e)]
  | .str i, .str j, _, _, e => by rw [str_beq (show (i == j) = true from e)]
  | .int i, .str j, _, _, e => nomatch e
  | .str i, .int j, _, _, e => nomatch e
  | .int i, .tup j, _, _, e => nomatch e
  | .tup i, .int j, _, _, e => nomatch e
  | .str i, .tup j, _, _, e => nomatch e
  | .tup i, .str j, _, _, e => nomatch e
  | .tup ds, .tup es, h1, h2, e => by rw [eqvs_py (ds := ds) (es := es) h1 h2 e]
  | .non, _, h, _, _ => nomatch h
  | .bl _, _, h, _, _ => nomatch h
  | .kt _, _, h, _, _ => nomatch h
  | .ref _, _, h, _, _ => nomatch h
  | .exn _ _, _, h, _, _ => nomatch h
  | .kl _, _, h, _, _ => nomatch h
  | _, .non, _, h, _ => nomatch h
  | _, .bl _, _, h, _ => nomatch h
  | _, .kt _, _, h, _ => nomatch h
  | _, .ref _, _, h, _ => nomatch h
  | _, .exn _ _, _, h, _ => nomatch h
  | _, .kl _, _, h, _ => nomatch h
theorem eqvs_py : ∀ {ds es : List D}, D.exs ds = true → D.exs es = true → PyData.eqvAll (D.pys ds) (D.pys es) = true → ds = es
  | [], [], _, _, _ => rfl
  | [], _ :: _, _, _, e => nomatch e
  | _ :: _, [], _, _, e => nomatch e
  | d :: ds, c :: es, h1, h2, e => by
    have e' := band_e (a := PyData.eqv d.py c.py) e
    rw [eqv_py (band_e (a := d.ex) h1).1 (band_e (a := c.ex) h2).1 e'.1, eqvs_py (band_e (a := d.ex) h1).2 (band_e (a := c.ex) h2).2 e'.2]
end
/-! ### dicts that can be told -/
structure DOk (K V : D → Prop) (n : Nat) (kvs : List (D × D)) : Prop where
  all : Pairs K V kvs
  nd : kvs.Pairwise fun p q => p.1 ≠ q.1
  len : kvs.length ≤ n
section
variable {K V V' : D → Prop} {n m : Nat} {kvs : List (D × D)} {k v : D}
theorem DOk.nil : DOk K V n [] := ⟨fun _ h => absurd h List.not_mem_nil, .nil, Nat.zero_le _⟩
theorem DOk.mono (h : DOk K V n kvs) (hv : ∀ d, V d → V' d) (hn : n ≤ m) : DOk K V' m kvs := ⟨fun p hp => ⟨(h.all p hp).1, hv _ (h.all p hp).2⟩, h.nd, Nat.le_trans h.len hn⟩
theorem DOk.get (h : DOk K V n kvs) (e : dget kvs k = some v) : V v := h.all.get e
theorem DOk.del (h : DOk K V n kvs) : DOk K V n (ddel kvs k) := ⟨h.all.del, h.nd.sublist List.filter_sublist, Nat.le_trans ddel_len h.len⟩
theorem DOk.put (ok : KOk K) (h : DOk K V n kvs) (hk : K k) (hv : V v) : DOk K V (n + 1) (dput kvs k v) := by
  refine ⟨h.all.put hk hv, ?_, Nat.le_trans dput_len (Nat.succ_le_succ h.len)⟩
  unfold dput
  split
  · rw [List.pairwise_map]
    refine h.nd.imp fun {p q} e => ?_
    intro z
    refine e ?_
    split at z <;> split at z <;> exact z
  · rename_i hn
    rw [List.pairwise_append]
    refine ⟨h.nd, List.pairwise_singleton _ _, fun p hp q hq e => ?_⟩
    rw [List.mem_singleton] at hq
    subst hq
    refine hn ?_
    unfold dhas
    rw [List.any_eq_true]
    exact ⟨p, hp, by rw [e]; exact eqv_refl _⟩
theorem DOk.set (ok : KOk K) (h : DOk K V n kvs) (hk : K k) (hv : V v) (hh : dhas kvs k = true) : DOk K V n (dput kvs k v) := by
  refine ⟨(h.put ok hk hv).all, (h.put ok hk hv).nd, ?_⟩
  unfold dput
  rw [if_pos hh, List.length_map]
  exact h.len
theorem DOk.pairs (ok : KOk K) (h : DOk K (Sm m) n kvs) : PairsOk kvs := by
  have dp : ∀ {d : D}, d.sm = true → d.dp ≤ 20 → d.py.depth ≤ 20 := fun h h2 => by rw [dp_py h]; exact h2
  refine ⟨fun p hp => ?_, fun p hp q hq => ok.al _ _ (h.all p hp).1 (h.all q hq).1, h.nd.imp_of_mem fun {p q} hp hq e => ?_⟩
  · obtain ⟨hk, hv⟩ := h.all p hp
    obtain ⟨k1, k2, k3, k4⟩ := ok.sm _ hk
    exact ⟨sm_pure k1, dp k1 (by omega), ok.nn _ hk, sm_pure hv.1, dp hv.1 (by have := hv.2.2; omega), alike_self hv.1⟩
  · have a := ok.sm _ (h.all p hp).1
    have b := ok.sm _ (h.all q hq).1
    refine ⟨?_, ?_⟩
    · rw [Bool.eq_false_iff]; exact fun z => e (eqv_py a.2.1 b.2.1 z)
    · rw [Bool.eq_false_iff]; exact fun z => e (eqv_py b.2.1 a.2.1 z).symm
end
/-! ### data as text -/
theorem pys_eq (ds : List D) : D.pys ds = ds.map D.py := by
  induction ds with
  | nil => rfl
  | cons d ds ih => rw [D.pys, List.map_cons, ih]
/-- a list that can be told within so much text -/
def LOk (n : Nat) (ds : List D) : Prop := D.sms ds = true ∧ D.bks ds ≤ n ∧ D.dps ds ≤ 12
theorem LOk.show {n : Nat} {ds : List D} (h : LOk n ds) : (PyData.list (D.pys ds)).showable = true ∧ (PyData.list (D.pys ds)).leavesShort 64 = true ∧ (PyData.list (D.pys ds)).bulk ≤ n ∧ (PyData.list (D.pys ds)).depth ≤ 13 := by
  obtain ⟨a, b⟩ := sms_show h.1
  refine ⟨a, b, ?_, ?_⟩
  · show PyData.bulkAll (D.pys ds) ≤ n
    rw [bks_py h.1]; exact h.2.1
  · show PyData.depthAll (D.pys ds) + 1 ≤ 13
    rw [dps_py h.1]; have := h.2.2; omega
theorem LOk.of {n m : Nat} {ds : List D} (h : ∀ d ∈ ds, Sm m d) (hl : ds.length ≤ n) : LOk ((m + 1) * n) ds :=
  ⟨sms_all.mpr fun d hd => (h d hd).1, Nat.le_trans (bks_le fun d hd => (h d hd).2.1) (Nat.mul_le_mul_left _ hl), dps_le fun d hd => Nat.le_trans (h d hd).2.2 (by decide)⟩
theorem pair_sm {K : D → Prop} {m : Nat} {p : D × D} (ok : KOk K) (hk : K p.1) (hv : Sm m p.2) : (pairD p).sm = true ∧ (pairD p).bk ≤ m + 22 ∧ (pairD p).dp ≤ 9 := by
  obtain ⟨k1, k2, k3, k4⟩ := ok.sm _ hk
  refine ⟨band_i k1 (band_i hv.1 rfl), ?_, ?_⟩
  · show p.1.bk + 1 + (p.2.bk + 1 + 0) ≤ m + 22
    have := hv.2.1; omega
  · show max p.1.dp (max p.2.dp 0) + 1 ≤ 9
    have := hv.2.2; omega
theorem DOk.list {K : D → Prop} {n m : Nat} {kvs : List (D × D)} (ok : KOk K) (h : DOk K (Sm m) n kvs) : LOk ((m + 23) * n) (kvs.map pairD) := by
  have a : ∀ d ∈ kvs.map pairD, d.sm = true ∧ d.bk ≤ m + 22 ∧ d.dp ≤ 9 := fun d hd => by
    obtain ⟨p, hp, rfl⟩ := List.mem_map.mp hd
    exact pair_sm ok (h.all p hp).1 (h.all p hp).2
  refine ⟨sms_all.mpr fun d hd => (a d hd).1, ?_, dps_le fun d hd => Nat.le_trans (a d hd).2.2 (by decide)⟩
  refine Nat.le_trans (bks_le fun d hd => (a d hd).2.1) (Nat.mul_le_mul_left _ ?_)
  rw [List.length_map]; exact h.len
theorem DOk.sorted {K V : D → Prop} {n : Nat} {kvs : List (D × D)} (h : Pairs K V kvs) (hl : kvs.length ≤ n) : Pairs K V (srtP kvs) ∧ (srtP kvs).length ≤ n := by
  unfold srtP
  exact ⟨fun p hp => h p (List.mem_mergeSort.mp hp), by rw [List.length_mergeSort]; exact hl⟩
theorem DOk.slist {K : D → Prop} {n m : Nat} {kvs : List (D × D)} (ok : KOk K) (h : DOk K (Sm m) n kvs) : LOk ((m + 23) * n) ((srtP kvs).map pairD) := by
  obtain ⟨p1, p2⟩ := DOk.sorted h.all h.len
  have a : ∀ d ∈ (srtP kvs).map pairD, d.sm = true ∧ d.bk ≤ m + 22 ∧ d.dp ≤ 9 := fun d hd => by
    obtain ⟨p, hp, rfl⟩ := List.mem_map.mp hd
    exact pair_sm ok (p1 p hp).1 (p1 p hp).2
  refine ⟨sms_all.mpr fun d hd => (a d hd).1, ?_, dps_le fun d hd => Nat.le_trans (a d hd).2.2 (by decide)⟩
  refine Nat.le_trans (bks_le fun d hd => (a d hd).2.1) (Nat.mul_le_mul_left _ ?_)
  rw [List.length_map]; exact p2

/-! ### the tables as text -/
def Tb.ds1 (S : Tb) : List (List D) := [S.objects, S.promises, S.answers, S.lent, S.known, S.hoped, S.places, S.arrived, S.pins].map fun kvs => (srtP kvs).map pairD
def Tb.ls1 (S : Tb) : List (List D) := [S.queue, S.parked, S.early, S.waiting, S.listeners, S.transfers, S.out, S.log, S.order]
def pl (l : List D) : PyData := .list (D.pys l)
def toldPy (S : Tb) : PyData := .list (.list [.int S.made, .int S.sent, .int S.asked, pl (S.held.map pairD)] :: (S.ds1 ++ S.ls1).map pl)
/-- a dict that can be told within so much text -/
def DB (K : D → Prop) (B : Nat) (kvs : List (D × D)) : Prop := ∃ n m, DOk K (Sm m) n kvs ∧ (m + 23) * n ≤ B
theorem LOk.mono {n m : Nat} {ds : List D} (h : LOk n ds) (hm : n ≤ m) : LOk m ds := ⟨h.1, Nat.le_trans h.2.1 hm, h.2.2⟩
section
variable {K : D → Prop} {B : Nat} {kvs : List (D × D)}
theorem DB.pairs (h : DB K B kvs) (ok : KOk K) : PairsOk kvs := let ⟨_, _, h, _⟩ := h; h.pairs ok
theorem DB.list (h : DB K B kvs) (ok : KOk K) : LOk B (kvs.map pairD) := let ⟨_, _, h, hb⟩ := h; (h.list ok).mono hb
theorem DB.slist (h : DB K B kvs) (ok : KOk K) : LOk B ((srtP kvs).map pairD) := let ⟨_, _, h, hb⟩ := h; (h.slist ok).mono hb
theorem DB.nil : DB K B [] := ⟨0, 0, DOk.nil, Nat.zero_le _⟩
theorem DB.of {V : D → Prop} {n m : Nat} (h : DOk K V n kvs) (hv : ∀ d, V d → Sm m d) (hb : (m + 23) * n ≤ B) : DB K B kvs := ⟨n, m, h.mono hv (Nat.le_refl _), hb⟩
end
/-- everything can be told, each row within so much text -/
structure TOk (B : Nat) (S : Tb) : Prop where
  made : S.made.natAbs ≤ 1000000
  sent : S.sent.natAbs ≤ 1000000
  asked : S.asked.natAbs ≤ 1000000
  objects : DB KI B S.objects
  promises : DB KI B S.promises
  answers : DB KP B S.answers
  lent : DB KR B S.lent
  held : DB KR B S.held
  known : DB KR B S.known
  hoped : DB KR B S.hoped
  places : DB KR B S.places
  arrived : DB KC B S.arrived
  pins : DB KR B S.pins
  rows : ∀ l ∈ S.ls1, LOk B l
theorem all_show {n : Nat} : ∀ {ls : List (List D)}, (∀ l ∈ ls, LOk n l) → PyData.showableAll (ls.map pl) = true ∧ PyData.leavesShortAll 64 (ls.map pl) = true ∧ PyData.bulkAll (ls.map pl) ≤ (n + 1) * ls.length ∧ PyData.depthAll (ls.map pl) ≤ 13
  | [], _ => ⟨rfl, rfl, Nat.zero_le _, Nat.zero_le _⟩
  | l :: ls, h => by
    obtain ⟨a1, a2, a3, a4⟩ := (h l List.mem_cons_self).show
    obtain ⟨b1, b2, b3, b4⟩ := all_show fun x hx => h x (List.mem_cons_of_mem _ hx)
    refine ⟨band_i a1 b1, band_i a2 b2, ?_, ?_⟩
    · show (pl l).bulk + 1 + PyData.bulkAll (ls.map pl) ≤ (n + 1) * (ls.length + 1)
      rw [Nat.mul_succ]
      have : (pl l).bulk ≤ n := a3
      omega
    · show max (pl l).depth (PyData.depthAll (ls.map pl)) ≤ 13
      have : (pl l).depth ≤ 13 := a4
      omega
theorem TOk.rows2 {B : Nat} {S : Tb} (h : TOk B S) : ∀ l ∈ S.ds1 ++ S.ls1, LOk B l := by
  intro l hl
  rcases List.mem_append.mp hl with hl | hl
  · simp only [Tb.ds1, List.map_cons, List.map_nil, List.mem_cons, List.not_mem_nil, or_false] at hl
    rcases hl with rfl | rfl | rfl | rfl | rfl | rfl | rfl | rfl | rfl
    · exact h.objects.slist KI.ok
    · exact h.promises.slist KI.ok
    · exact h.answers.slist KP.ok
    · exact h.lent.slist KR.ok
    · exact h.known.slist KR.ok
    · exact h.hoped.slist KR.ok
    · exact h.places.slist KR.ok
    · exact h.arrived.slist KC.ok
    · exact h.pins.slist KR.ok
  · exact h.rows l hl
theorem told_ok {B : Nat} {S : Tb} (h : TOk B S) (hn : B ≤ 12500) : Told (toldPy S) := by
  obtain ⟨b1, b2, b3, b4⟩ := all_show h.rows2
  obtain ⟨a1, a2, a3, a4⟩ := (h.held.list KR.ok).show
  have i : ∀ {i : Int}, i.natAbs ≤ 1000000 → i.natAbs < 2 ^ 60 := fun h => by
    have : (1000000 : Nat) < 2 ^ 60 := by decide
    omega
  obtain ⟨c1, c2⟩ := show_int (i h.made)
  obtain ⟨d1, d2⟩ := show_int (i h.sent)
  obtain ⟨e1, e2⟩ := show_int (i h.asked)
  have hb : (toldPy S).bulk ≤ 250000 := by
    show (0 + 1 + (0 + 1 + (0 + 1 + ((pl (S.held.map pairD)).bulk + 1 + 0)))) + 1 + PyData.bulkAll ((S.ds1 ++ S.ls1).map pl) ≤ _
    have l : (S.ds1 ++ S.ls1).length = 18 := rfl
    have : (pl (S.held.map pairD)).bulk ≤ B := a3
    rw [l] at b3
    omega
  refine ⟨?_, ?_, ?_⟩
  · exact band_i (band_i c1 (band_i d1 (band_i e1 (band_i a1 rfl)))) b1
  · refine Nat.le_trans (PyData.shown_le_bulk 64 (by decide) _ (band_i (band_i c2 (band_i d2 (band_i e2 (band_i a2 rfl)))) b2)) ?_
    show (64 + 2) * _ + 64 ≤ 2 ^ 24
    omega
  · show max (max 0 (max 0 (max 0 (max (pl (S.held.map pairD)).depth 0))) + 1) (PyData.depthAll ((S.ds1 ++ S.ls1).map pl)) + 1 ≤ 40
    have : (pl (S.held.map pairD)).depth ≤ 13 := a4
    omega
end L3
end
section
set_option autoImplicit false
set_option linter.all false
set_option maxRecDepth 100000
/-! L3: promises of the defs that draw -/
namespace L3
open PySem (Addr Str PyData NestedKey)

/-! ### the draws: a list of the digits and a place -/
def BX (M : Mp) (b d : Addr) : Prop := ∃ (xs : List Int) (at_ : Nat), M b = some (.lst [.ref d, .int at_]) ∧ M d = some (.lst (xs.map .int)) ∧ b ≠ d
structure SB (M : Mp) (b d s : Addr) (ls : Fl → Addr) (S : Tb) : Prop where
  bx : BX M b d
  ss : SS M s ls S
  nb : ¬ OS s ls b
  nd : ¬ OS s ls d
section
variable {M M1 : Mp} {b d s p : Addr} {ls : Fl → Addr} {S : Tb} {o : MO}
theorem BX.has (h : BX M b d) : M b ≠ none ∧ M d ≠ none := by
  obtain ⟨xs, i, h1, h2, _⟩ := h
  exact ⟨by rw [h1]; exact nofun, by rw [h2]; exact nofun⟩
theorem BX.keep (h : BX M b d) (h1 : M1 b = M b) (h2 : M1 d = M d) : BX M1 b d := by
  obtain ⟨xs, i, g1, g2, g3⟩ := h
  exact ⟨xs, i, by rw [h1]; exact g1, by rw [h2]; exact g2, g3⟩
theorem BX.fr {O : Addr → Prop} (h : BX M b d) (f : Fr O M M1) (h1 : ¬ O b) (h2 : ¬ O d) : BX M1 b d := h.keep (f b h1 h.has.1) (f d h2 h.has.2)
theorem BX.no (h : BX M b d) (f : Fr No M M1) : BX M1 b d := h.fr f (fun w => w) fun w => w
theorem BX.new (h : BX M b d) (hp : M p = none) : BX (mset M p o) b d := h.no (Fr.new hp)
theorem BX.ne (h : BX M b d) : b ≠ d := by obtain ⟨_, _, _, _, g⟩ := h; exact g
theorem SB.at_ (h : SB M b d s ls S) (x : BX M1 b d) (f : Fr (At b) M M1) : SB M1 b d s ls S := ⟨x, h.ss.fr f fun a e o => h.nb (by rw [← show a = b from e]; exact o), h.nb, h.nd⟩
theorem SB.no (h : SB M b d s ls S) (f : Fr No M M1) : SB M1 b d s ls S := ⟨h.bx.no f, h.ss.fr f fun a e _ => e, h.nb, h.nd⟩
theorem SB.new (h : SB M b d s ls S) (hp : M p = none) : SB (mset M p o) b d s ls S := h.no (Fr.new hp)
end
/-! ### values -/
def Txt1 (x : Str) : Prop := (D.str x).sm = true ∧ x.cps.size ≤ 24
/-- an atom; R: of its references -/
def Atom (R : D → Prop) (d : D) : Prop := (∃ (o : Bool) (v n : Int), d = rf o v n ∧ v.natAbs ≤ 1000000 ∧ n.natAbs ≤ 1000000 ∧ R d) ∨
  ∃ (x : Str) (ds : List D), d = .tup (.str x :: ds) ∧ x ≠ "object" ∧ x ≠ "promise" ∧ x ≠ "list" ∧ d.sm = true ∧ d.bk ≤ 30 ∧ d.dp ≤ 1
def Val (R : D → Prop) (d : D) : Prop := Atom R d ∨ ∃ as : List D, d = .tup [.str "list", .tup as] ∧ as.length ≤ 3 ∧ ∀ a ∈ as, Atom R a
def Stl (R : D → Prop) (d : D) : Prop := (∃ v, d = .tup [.str "fulfilled", v] ∧ Val R v) ∨ ∃ x, d = .tup [.str "broken", .str x] ∧ Txt1 x
def Rec (R : D → Prop) (V K : Nat) (d : D) : Prop := d = .tup [.str "pending"] ∨ Stl R d ∨
  ∃ (v q : Int) (w : W), d = .tup [.str "forwarded", .int v, .int q, pr w] ∧ v.natAbs ≤ 1000000 ∧ q.natAbs ≤ 1000000 ∧ WOk V K w
def Wt (V K : Nat) (d : D) : Prop := ∃ w, d = pr w ∧ WOk V K w
/-- an object: its class, two values -/
def Thing (R : D → Prop) (d : D) : Prop := ∃ x vs, d = .tup [.str x, .tup vs] ∧ Txt1 x ∧ vs.length ≤ 2 ∧ ∀ v ∈ vs, Val R v
def Ans (R : D → Prop) (V K : Nat) (d : D) : Prop := ∃ (s r : D) (w : W), d = .tup [s, r, pr w] ∧ KS s ∧ Rec R V K r ∧ WOk V K w
section
variable {R R' : D → Prop} {V K V' K' : Nat} {d : D}
theorem Atom.mono (h : Atom R d) (s : ∀ r, R r → R' r) : Atom R' d := by
  rcases h with ⟨o, v, n, e, h1, h2, h3⟩ | h
  · exact .inl ⟨o, v, n, e, h1, h2, s _ h3⟩
  · exact .inr h
theorem Val.mono (h : Val R d) (s : ∀ r, R r → R' r) : Val R' d := by
  rcases h with h | ⟨as, e, hl, h⟩
  · exact .inl (h.mono s)
  · exact .inr ⟨as, e, hl, fun a ha => (h a ha).mono s⟩
theorem Stl.mono (h : Stl R d) (s : ∀ r, R r → R' r) : Stl R' d := by
  rcases h with ⟨v, e, h⟩ | h
  · exact .inl ⟨v, e, h.mono s⟩
  · exact .inr h
theorem Rec.mono (h : Rec R V K d) (s : ∀ r, R r → R' r) (hV : V ≤ V') (hK : K ≤ K') : Rec R' V' K' d := by
  rcases h with h | h | ⟨v, q, w, e, h1, h2, h3⟩
  · exact .inl h
  · exact .inr (.inl (h.mono s))
  · exact .inr (.inr ⟨v, q, w, e, h1, h2, h3.mono hV hK⟩)
theorem Wt.mono (h : Wt V K d) (hV : V ≤ V') (hK : K ≤ K') : Wt V' K' d := let ⟨w, e, h⟩ := h; ⟨w, e, h.mono hV hK⟩
theorem Atom.sm (h : Atom R d) : d.sm = true ∧ d.bk ≤ 30 ∧ d.dp ≤ 1 := by
  rcases h with ⟨o, v, n, rfl, h1, h2, _⟩ | ⟨x, ds, _, _, _, _, h⟩
  · obtain ⟨a, _, b, c, _⟩ := KR.sm ⟨o, v, n, rfl, h1, h2⟩
    exact ⟨a, by omega, c⟩
  · exact h
theorem Val.sm (h : Val R d) : d.sm = true ∧ d.bk ≤ 99 ∧ d.dp ≤ 3 := by
  rcases h with h | ⟨as, rfl, hl, h⟩
  · obtain ⟨a, b, c⟩ := h.sm; exact ⟨a, by omega, by omega⟩
  · refine ⟨smt (smc rfl (smc (smt (sms_all.mpr fun a ha => (h a ha).sm.1)) smn)), ?_, ?_⟩
    · have h1 := bks_le (n := 30) fun a ha => (h a ha).sm.2.1
      have h2 : (30 + 1) * as.length ≤ 31 * 3 := Nat.mul_le_mul_left _ hl
      show 4 + 1 + (D.bks as + 1 + 0) ≤ 99
      omega
    · have := dps_le (n := 1) fun a ha => (h a ha).sm.2.2
      show max 0 (max (D.dps as + 1) 0) + 1 ≤ 3
      omega
theorem Txt1.bk {x : Str} (h : Txt1 x) : (D.str x).bk ≤ 24 := h.2
theorem Stl.sm (h : Stl R d) : d.sm = true ∧ d.bk ≤ 110 ∧ d.dp ≤ 4 := by
  rcases h with ⟨v, rfl, h⟩ | ⟨x, rfl, h⟩
  · obtain ⟨a, b, c⟩ := h.sm
    refine ⟨smt (smc rfl (smc a smn)), ?_, ?_⟩
    · show 9 + 1 + (v.bk + 1 + 0) ≤ 110; omega
    · show max 0 (max v.dp 0) + 1 ≤ 4; omega
  · refine ⟨smt (smc rfl (smc h.1 smn)), ?_, Nat.le_of_ble_eq_true rfl⟩
    show 6 + 1 + (x.cps.size + 1 + 0) ≤ 110
    have := h.2; omega
theorem int_sm2 {i : Int} (h : i.natAbs ≤ 1000000) : (D.int i).sm = true := int_sm h
theorem Wt.sm (h : Wt V K d) (hV : V ≤ 2 ^ 20) (hK : K ≤ 39) : d.sm = true ∧ d.bk ≤ 2 ∧ d.dp ≤ 1 := by
  obtain ⟨w, rfl, h⟩ := h
  exact ⟨pr_sm h hV hK, Nat.le_refl _, Nat.le_refl _⟩
theorem Rec.sm (h : Rec R V K d) (hV : V ≤ 2 ^ 20) (hK : K ≤ 39) : d.sm = true ∧ d.bk ≤ 110 ∧ d.dp ≤ 4 := by
  rcases h with rfl | h | ⟨v, q, w, rfl, h1, h2, h3⟩
  · exact ⟨rfl, Nat.le_of_ble_eq_true rfl, Nat.le_of_ble_eq_true rfl⟩
  · exact h.sm
  · exact ⟨smt (smc rfl (smc (int_sm h1) (smc (int_sm h2) (smc (pr_sm h3 hV hK) smn)))), by show 9 + 1 + (0 + 1 + (0 + 1 + (2 + 1 + 0))) ≤ 110; decide, Nat.le_of_ble_eq_true rfl⟩
theorem Thing.sm (h : Thing R d) : d.sm = true ∧ d.bk ≤ 230 ∧ d.dp ≤ 5 := by
  obtain ⟨x, vs, rfl, h0, h1, h2⟩ := h
  have b2 : D.bks vs ≤ (99 + 1) * vs.length := bks_le fun d hd => (h2 d hd).sm.2.1
  have b3 : (99 + 1) * vs.length ≤ 100 * 2 := Nat.mul_le_mul_left _ h1
  have d2 : D.dps vs ≤ 3 := dps_le fun d hd => (h2 d hd).sm.2.2
  refine ⟨smt (smc h0.1 (smc (smt (sms_all.mpr fun d hd => (h2 d hd).sm.1)) smn)), ?_, ?_⟩
  · show x.cps.size + 1 + (D.bks vs + 1 + 0) ≤ 230
    have := h0.2; omega
  · show max 0 (max (D.dps vs + 1) 0) + 1 ≤ 5
    omega
theorem Thing.two {x : Str} {v v' : D} (h : Txt1 x) (h1 : Val R v) (h2 : Val R v') : Thing R (.tup [.str x, .tup [v, v']]) :=
  ⟨x, _, rfl, h, Nat.le_refl _, fun w hw => by
    rcases List.mem_cons.mp hw with rfl | hw
    · exact h1
    · rw [List.mem_singleton] at hw; subst hw; exact h2⟩
theorem Ans.sm (h : Ans R V K d) (hV : V ≤ 2 ^ 20) (hK : K ≤ 39) : d.sm = true ∧ d.bk ≤ 120 ∧ d.dp ≤ 5 := by
  obtain ⟨s, r, w, rfl, h1, h3, h4⟩ := h
  obtain ⟨a, b, c⟩ := h3.sm hV hK
  obtain ⟨s1, _, s2, s3, _⟩ := h1.sm
  refine ⟨smt (smc s1 (smc a (smc (pr_sm h4 hV hK) smn))), ?_, ?_⟩
  · show s.bk + 1 + (r.bk + 1 + (2 + 1 + 0)) ≤ 120; omega
  · show max s.dp (max r.dp (max (max 0 (max 0 0) + 1) 0)) + 1 ≤ 5; omega
end
/-- a reference as the draws make them: an own one, or one of the twelve far ones -/
def Rg (vat : Int) (r : D) : Prop := (∃ (o : Bool) (n : Int), r = rf o vat n ∧ 101 ≤ n ∧ n ≤ 300) ∨ ∃ (o : Bool) (v n : Int), r = rf o v n ∧ v ≠ vat ∧ 1 ≤ v ∧ v ≤ 4 ∧ 1 ≤ n ∧ n ≤ 2
/-- .. own promises up to a top -/
def Rt (vat t : Int) (r : D) : Prop := (∃ n : Int, r = rf true vat n ∧ 101 ≤ n ∧ n ≤ 103) ∨ (∃ n : Int, r = rf false vat n ∧ 101 ≤ n ∧ n < 101 + t) ∨ ∃ (o : Bool) (v n : Int), r = rf o v n ∧ v ≠ vat ∧ 1 ≤ v ∧ v ≤ 4 ∧ 1 ≤ n ∧ n ≤ 2
theorem Rt.mono {v t t' : Int} {r : D} (h : Rt v t r) (ht : t ≤ t') : Rt v t' r := by
  rcases h with h | ⟨n, e, h1, h2⟩ | h
  · exact .inl h
  · exact .inr (.inl ⟨n, e, h1, by omega⟩)
  · exact .inr (.inr h)
/-- the vat and the top are as the draws make them -/
structure Gn (S : Tb) : Prop where
  v0 : 1 ≤ S.vat
  v1 : S.vat ≤ 4
  t0 : 1 ≤ S.top
  t1 : S.top ≤ 100
/-- the three other vats -/
def oth (v : Int) : List Int := [1, 2, 3, 4].filter fun k => decide (k ≠ v)
theorem oth_len {v : Int} (h0 : 1 ≤ v) (h1 : v ≤ 4) : (oth v).length = 3 := by
  have : v = 1 ∨ v = 2 ∨ v = 3 ∨ v = 4 := by omega
  rcases this with rfl | rfl | rfl | rfl <;> rfl
theorem oth_mem {v k : Int} (h : k ∈ oth v) : k ≠ v ∧ 1 ≤ k ∧ k ≤ 4 := by
  obtain ⟨h1, h2⟩ := List.mem_filter.mp h
  refine ⟨of_decide_eq_true h2, ?_⟩
  simp only [List.mem_cons, List.not_mem_nil, or_false] at h1
  omega
/-- the far references of the others -/
def farW (o : Bool) (os : List Int) : List D := os.flatMap fun v => [rf o v 1, rf o v 2]
def farD (os : List Int) : List D := farW true os ++ farW false os
/-- new tables -/
def T0 (v : Int) : Tb := { vat := v, prog := .tup [], top := 0, made := 0, sent := 0, asked := 0, objects := [], promises := [], answers := [], lent := [], held := [], known := [], hoped := [], places := [], arrived := [], queue := [], parked := [], early := [], waiting := [], listeners := [], pins := [], transfers := [], out := [], log := [], order := [] }

/-! ### the promises -/
/-- of a def that is never called -/
def sp_never : L3.Spec := fun _ _ _ _ => False
theorem ln_never {n : Nat} {xs : List D} {M : Mp} {Q X : Post} (h : sp_never xs M Q X) : xs.length = n := h.elim

def sp__law_draw : L3.Spec := fun xs M Q _ => ∃ (b d : Addr) (m : Int), xs = [.ref b, .int m] ∧ 0 < m ∧ BX M b d ∧ ∀ r M', 0 ≤ r → r < m → BX M' b d → Fr (At b) M M' → Q (.int r) M'
def sp__law_cell : L3.Spec := fun xs M Q _ => ∃ (ns : List Int) (k : Nat), xs = [.kl (ns.map .int), .int k] ∧ ∀ n, Q (.int n) M
def sp__law_digits : L3.Spec := fun xs M Q _ => ∃ (ns : List Int) (k : Nat), xs = [.kl (ns.map .int), .int 0, .int k] ∧ k ≤ 100 ∧ ∀ (d : Addr) (ys : List Int) (M' : Mp), M d = none → M' d = some (.lst (ys.map .int)) → Fr No M M' → Q (.ref d) M'
def sp__law_same : L3.Spec := fun xs M Q _ => ∃ d e p, xs = [d, e] ∧ Deep M d p ∧ Deep M e p ∧ Told p ∧ Q (.bl true) M
def sp__law_weight : L3.Spec := fun xs M Q _ => ∃ (b d : Addr), xs = [.ref b] ∧ BX M b d ∧ ∀ w M', WOk 17 4 w → 0 < w.1 → BX M' b d → Fr (At b) M M' → Q (pr w) M'
def spDraw (T : Tb → D → Prop) : L3.Spec := fun xs M Q _ => ∃ (b d s : Addr) (ls : Fl → Addr) (S : Tb), xs = [.ref b, .ref s] ∧ SB M b d s ls S ∧ Gn S ∧ ∀ r M', T S r → BX M' b d → Fr (At b) M M' → Q r M'
def sp__law_atom : L3.Spec := spDraw fun S r => Atom (Rt S.vat S.top) r
def sp__law_value : L3.Spec := spDraw fun S r => Val (Rt S.vat S.top) r
def sp__law_settled : L3.Spec := spDraw fun S r => Stl (Rt S.vat S.top) r
def sp__law_outcome : L3.Spec := spDraw fun S r => Rec (Rt S.vat S.top) 17 4 r
def sp__law_all_far : L3.Spec := fun xs M Q _ => ∃ (p : Addr) (os : List Int), xs = [.ref p] ∧ M p = some (.lst (os.map .int)) ∧ os.length ≤ 3 ∧ ∀ a M', M a = none → M' a = some (.lst (farD os)) → Fr No M M' → Q (.ref a) M'
def sp__law_begin : L3.Spec := fun xs M Q _ => ∃ v : Int, xs = [.int v] ∧ ∀ s ls M', SS M' s ls (T0 v) → Fr No M M' → (∀ a, OS s ls a → M a = none) → Q (.ref s) M'
def sp_Tables___init__ : L3.Spec := fun xs M Q _ => ∃ (p : Addr) (v : Int) (g : D), xs = [.ref p, .int v, g] ∧ M p = some (.ins 0 []) ∧ ∀ lt M', TT M' p lt { T0 v with prog := g } → Fr (At p) M M' → (∀ i, M (lt i) = none) → Q .non M'
theorem ln__law_draw {xs : List D} {M : Mp} {Q X : Post} (h : sp__law_draw xs M Q X) : xs.length = 2 := by obtain ⟨_, _, _, rfl, _⟩ := h; rfl
theorem ln__law_cell {xs : List D} {M : Mp} {Q X : Post} (h : sp__law_cell xs M Q X) : xs.length = 2 := by obtain ⟨_, _, rfl, _⟩ := h; rfl
theorem ln__law_digits {xs : List D} {M : Mp} {Q X : Post} (h : sp__law_digits xs M Q X) : xs.length = 3 := by obtain ⟨_, _, rfl, _⟩ := h; rfl
theorem ln__law_same {xs : List D} {M : Mp} {Q X : Post} (h : sp__law_same xs M Q X) : xs.length = 2 := by obtain ⟨_, _, _, rfl, _⟩ := h; rfl
theorem ln__law_weight {xs : List D} {M : Mp} {Q X : Post} (h : sp__law_weight xs M Q X) : xs.length = 1 := by obtain ⟨_, _, rfl, _⟩ := h; rfl
theorem ln_spDraw {T : Tb → D → Prop} {xs : List D} {M : Mp} {Q X : Post} (h : spDraw T xs M Q X) : xs.length = 2 := by obtain ⟨_, _, _, _, _, rfl, _⟩ := h; rfl
theorem ln__law_atom {xs : List D} {M : Mp} {Q X : Post} (h : sp__law_atom xs M Q X) : xs.length = 2 := ln_spDraw h
theorem ln__law_value {xs : List D} {M : Mp} {Q X : Post} (h : sp__law_value xs M Q X) : xs.length = 2 := ln_spDraw h
theorem ln__law_settled {xs : List D} {M : Mp} {Q X : Post} (h : sp__law_settled xs M Q X) : xs.length = 2 := ln_spDraw h
theorem ln__law_outcome {xs : List D} {M : Mp} {Q X : Post} (h : sp__law_outcome xs M Q X) : xs.length = 2 := ln_spDraw h
theorem ln__law_all_far {xs : List D} {M : Mp} {Q X : Post} (h : sp__law_all_far xs M Q X) : xs.length = 1 := by obtain ⟨_, _, rfl, _⟩ := h; rfl
theorem ln__law_begin {xs : List D} {M : Mp} {Q X : Post} (h : sp__law_begin xs M Q X) : xs.length = 1 := by obtain ⟨_, rfl, _⟩ := h; rfl
theorem ln_Tables___init__ {xs : List D} {M : Mp} {Q X : Post} (h : sp_Tables___init__ xs M Q X) : xs.length = 3 := by obtain ⟨_, _, _, rfl, _⟩ := h; rfl
end L3
namespace L3
open PySem (Addr Str PyData NestedKey)
def sp_law : L3.Spec := fun xs M Q _ => ∃ ns : List Int, xs = [.kl (ns.map .int)] ∧ M = (fun _ => none) ∧ ∀ M', Q (.bl true) M'
theorem ln_law {xs : List D} {M : Mp} {Q X : Post} (h : sp_law xs M Q X) : xs.length = 1 := by obtain ⟨_, rfl, _⟩ := h; rfl
theorem ints_app {xs : List Int} {y : Int} : (xs.map D.int ++ [D.int y]) = (xs ++ [y]).map D.int := by simp
theorem atD_ints {xs : List Int} {i : Nat} (h : i < xs.length) : atD (xs.map .int) (i : Int) = some (.int xs[i]) := atD_nat (by simp [h])
theorem sm0 {i : Int} (h0 : 0 ≤ i) (h : i ≤ 1000000) : small62 i := ⟨by omega, by omega⟩
theorem one2 {α : Type} (a b : α) : [a, b].length ≤ PySem.sizeLine := by show 2 ≤ _; decide
theorem one3 {α : Type} (a b c : α) : [a, b, c].length ≤ PySem.sizeLine := by show 3 ≤ _; decide
theorem one4 {α : Type} (a b c d : α) : [a, b, c, d].length ≤ PySem.sizeLine := by show 4 ≤ _; decide
end L3
namespace L3
open PySem (Addr Str PyData NestedKey)
def othF (v : Int) : D → Option D
  | .int k => if k = v then none else some (.int k)
  | _ => none
theorem oth_map (v : Int) : List.filterMap (othF v) [D.int 1, D.int 2, D.int 3, D.int 4] = (oth v).map D.int := by
  unfold oth
  by_cases h1 : (1 : Int) = v <;> by_cases h2 : (2 : Int) = v <;> by_cases h3 : (3 : Int) = v <;> by_cases h4 : (4 : Int) = v <;> simp [othF, h1, h2, h3, h4]
end L3
namespace L3
theorem farW_len (o : Bool) : ∀ os : List Int, (farW o os).length = 2 * os.length
  | [] => rfl
  | a :: l => by
    have h := farW_len o l
    unfold farW at h ⊢
    rw [List.flatMap_cons, List.length_append, h]
    simp only [List.length_cons, List.length_nil]
    omega
theorem farD_len (os : List Int) : (farD os).length = 4 * os.length := by
  unfold farD
  rw [List.length_append, farW_len, farW_len]; omega
end L3
namespace L3
open PySem (Addr Str PyData NestedKey)
/-! several new objects -/
structure Al (O : Addr → Prop) (M : Mp) (xs : List (Addr × MO)) (M' : Mp) : Prop where
  nd : (xs.map (·.1)).Nodup
  at_ : ∀ q ∈ xs, M' q.1 = some q.2
  fresh : ∀ q ∈ xs, M q.1 = none ∧ ¬ O q.1
  fr : Fr O M M'
  has : ∀ a, O a → M' a ≠ none
section
variable {O : Addr → Prop} {M M' : Mp} {xs : List (Addr × MO)} {p : Addr} {o : MO}
theorem Al.nil (h : ∀ a, O a → M a ≠ none) : Al O M [] M := ⟨.nil, fun _ h => absurd h List.not_mem_nil, fun _ h => absurd h List.not_mem_nil, Fr.refl, h⟩
theorem Al.snoc (h : Al O M xs M') (hp : M' p = none) : Al O M (xs ++ [(p, o)]) (mset M' p o) := by
  have no : ¬ O p := fun w => h.has p w hp
  refine ⟨?_, fun q hq => ?_, fun q hq => ?_, h.fr.trans (Fr.new hp), fun a w => ?_⟩
  · rw [List.map_append, List.nodup_append]
    refine ⟨h.nd, by simp, fun a ha b hb e => ?_⟩
    obtain ⟨q, hq, rfl⟩ := List.mem_map.mp ha
    have : b = p := by simpa using hb
    subst this
    have := h.at_ q hq
    rw [e, hp] at this; cases this
  · rcases List.mem_append.mp hq with hq | hq
    · have := h.at_ q hq
      rw [mset_ne (Fr.ne this hp)]; exact this
    · rw [List.mem_singleton] at hq; subst hq; exact mset_same
  · rcases List.mem_append.mp hq with hq | hq
    · exact h.fresh q hq
    · rw [List.mem_singleton] at hq; subst hq; exact ⟨h.fr.no0 no hp, no⟩
  · have ne : a ≠ p := by rintro rfl; exact no w
    rw [mset_ne ne]; exact h.has a w
theorem Al.wr (h : Al O M xs M') (hp : O p) : Al O M xs (mset M' p o) := by
  refine ⟨h.nd, fun q hq => ?_, h.fresh, h.fr.trans (Fr.set hp), fun a w => ?_⟩
  · have ne : q.1 ≠ p := fun e => (h.fresh q hq).2 (by rw [e]; exact hp)
    rw [mset_ne ne]; exact h.at_ q hq
  · by_cases e : a = p
    · subst e; rw [mset_same]; exact nofun
    · rw [mset_ne e]; exact h.has a w
end
def Fl.ix : Fl → Nat
  | .objects => 0 | .promises => 1 | .answers => 2 | .lent => 3 | .held => 4 | .known => 5 | .hoped => 6 | .places => 7 | .arrived => 8 | .queue => 9 | .parked => 10 | .early => 11 | .waiting => 12 | .listeners => 13 | .pins => 14 | .transfers => 15 | .out => 16 | .log => 17 | .order => 18
def Fl.of : Nat → Fl
  | 0 => .objects | 1 => .promises | 2 => .answers | 3 => .lent | 4 => .held | 5 => .known | 6 => .hoped | 7 => .places | 8 => .arrived | 9 => .queue | 10 => .parked | 11 => .early | 12 => .waiting | 13 => .listeners | 14 => .pins | 15 => .transfers | 16 => .out | 17 => .log | _ => .order
theorem Fl.of_ix (i : Fl) : Fl.of i.ix = i := by cases i <;> rfl
theorem Fl.ix_lt (i : Fl) : i.ix < 19 := by cases i <;> decide
theorem Fl.ix_lt2 {i : Fl} (h : i ≠ .order) : i.ix < 18 := by cases i <;> first | decide | exact absurd rfl h
def box0 : List MO := [.dct [], .dct [], .dcT [], .dcT [], .dcT [], .dcT [], .dcT [], .dcT [], .dcT [], .lst [], .lst [], .lst [], .lst [], .lst [], .dcT [], .lst [], .lst [], .lst [], .lst []]
theorem box0_at (v : Int) (i : Fl) : box0[i.ix]? = some ((T0 v).box i) := by cases i <;> rfl
def lsOf (l : List Addr) (i : Fl) : Addr := l.getD i.ix 0
section
variable {O : Addr → Prop} {M M' M1 : Mp} {l : List Addr} {n : Nat}
theorem al_at (h : Al O M (l.zip box0) M') {i : Fl} (hi : i.ix < l.length) (v : Int) : (lsOf l i, (T0 v).box i) ∈ l.zip box0 := by
  have e : l[i.ix]? = some l[i.ix] := List.getElem?_eq_getElem hi
  have e2 : (l.zip box0)[i.ix]? = some (l[i.ix], (T0 v).box i) := by
    rw [List.getElem?_zip_eq_some]; exact ⟨e, box0_at v i⟩
  have : lsOf l i = l[i.ix] := by unfold lsOf; rw [List.getD_eq_getElem?_getD, e]; rfl
  rw [this]
  exact List.mem_of_getElem? e2
theorem al_inj (h : Al O M (l.zip box0) M') (hl : l.length ≤ 19) {i j : Fl} (hi : i.ix < l.length) (hj : j.ix < l.length) (e : lsOf l i = lsOf l j) : i = j := by
  have z : (l.zip box0).map (·.1) = l := by rw [List.map_fst_zip]; exact hl
  have nd : l.Nodup := by have := h.nd; rwa [z] at this
  have ei : lsOf l i = l[i.ix] := by unfold lsOf; rw [List.getD_eq_getElem?_getD, List.getElem?_eq_getElem hi]; rfl
  have ej : lsOf l j = l[j.ix] := by unfold lsOf; rw [List.getD_eq_getElem?_getD, List.getElem?_eq_getElem hj]; rfl
  rw [ei, ej] at e
  have key : ∀ a b : Nat, (ha : a < l.length) → (hb : b < l.length) → l[a] = l[b] → ¬ a < b := fun a b ha hb e lt => List.pairwise_iff_getElem.mp nd a b ha hb lt e
  have : i.ix = j.ix := by
    have a := key _ _ hi hj e
    have b := key _ _ hj hi e.symm
    omega
  rw [← Fl.of_ix i, ← Fl.of_ix j, this]
end
theorem SS_of {M M' : Mp} {l : List Addr} {s : Addr} {v : Int} (h : Al No M (l.zip box0) M') (hl : l.length = 18) (hs : M' s = none) : SS (mset M' s (.dct ((T0 v).dct (lsOf l)))) s (lsOf l) (T0 v) ∧ Fr No M (mset M' s (.dct ((T0 v).dct (lsOf l)))) ∧ ∀ a, OS s (lsOf l) a → M a = none := by
  have b : ∀ i : Fl, i ≠ .order → i.ix < l.length := fun i n => by rw [hl]; exact Fl.ix_lt2 n
  have ne : ∀ i : Fl, i ≠ .order → lsOf l i ≠ s := fun i n => Fr.ne (h.at_ _ (al_at h (b i n) v)) hs
  refine ⟨⟨fun i j ni nj e => al_inj h (by omega) (b i ni) (b j nj) e, ne, mset_same, fun i n => ?_⟩, h.fr.trans (Fr.new hs), ?_⟩
  · rw [mset_ne (ne i n)]; exact h.at_ _ (al_at h (b i n) v)
  · rintro a (rfl | ⟨i, n, rfl⟩)
    · exact h.fr.no0 (fun w => w) hs
    · exact (h.fresh _ (al_at h (b i n) v)).1
theorem TT_of {M M' : Mp} {l : List Addr} {t : Addr} {v : Int} {g : D} (h : Al (At t) M (l.zip box0) M') (hl : l.length = 19) (ht : M' t = some (.ins 0 (Tb.ins { T0 v with prog := g } (lsOf l)))) : TT M' t (lsOf l) { T0 v with prog := g } ∧ ∀ i, M (lsOf l i) = none := by
  have b : ∀ i : Fl, i.ix < l.length := fun i => by rw [hl]; exact Fl.ix_lt i
  refine ⟨⟨fun i j e => al_inj h (by omega) (b i) (b j) e, fun i => (h.fresh _ (al_at h (b i) v)).2, ht, fun i => ?_⟩, fun i => (h.fresh _ (al_at h (b i) v)).1⟩
  rw [h.at_ _ (al_at h (b i) v)]
  cases i <;> rfl
end L3
namespace L3
open PySem (Addr Str PyData NestedKey)
theorem putFd_new {f : Str} {v : D} : ∀ {fs : List (Str × D)}, f ∉ fs.map (·.1) → putFd f v fs = fs ++ [(f, v)]
  | [], _ => rfl
  | (g, x) :: r, h => by
    have h1 : g ≠ f := fun e => h (by rw [e]; exact List.mem_cons_self)
    rw [putFd, if_neg h1, putFd_new (fun z => h (List.mem_cons_of_mem _ z))]; rfl
section
variable {P : Pr} {M M1 : Mp} {p : Addr} {xs : List (Addr × MO)} {fs : List (Str × D)} {f : Str} {o : MO} {v : D} {km : Mp → Prop} {ks : List Str}
theorem init_set {fs2 : List (Str × D)} (ks : List Str) (A : Al (At p) M xs M1) (e : M1 p = some (.ins 0 fs)) (hf : P.fl 0 f = true) (hk : fs.map (·.1) = ks) (hn : (decide (f ∉ ks) && decide (ks.length < 900)) = true) (h2 : fs ++ [(f, v)] = fs2) (n : ∀ M2, Al (At p) M xs M2 → M2 p = some (.ins 0 fs2) → km M2) : wpSetFld P (.ref p) f v M1 km := by
  subst hk
  subst h2
  rw [Bool.and_eq_true] at hn
  refine (w_setFld e).mpr ⟨⟨hf, by simpa using of_decide_eq_true hn.2⟩, n _ (A.wr rfl) ?_⟩
  rw [mset_same, putFd_new (of_decide_eq_true hn.1)]
theorem init_new {fs2 : Addr → List (Str × D)} (ks : List Str) (A : Al (At p) M xs M1) (e : M1 p = some (.ins 0 fs)) (hf : P.fl 0 f = true) (hk : fs.map (·.1) = ks) (hn : (decide (f ∉ ks) && decide (ks.length < 900)) = true) (h2 : ∀ a, fs ++ [(f, .ref a)] = fs2 a) (n : ∀ a M2, Al (At p) M (xs ++ [(a, o)]) M2 → M2 p = some (.ins 0 (fs2 a)) → km M2) : wpNew M1 o fun v M2 => wpSetFld P (.ref p) f v M2 km := fun a ha =>
  init_set ks (A.snoc ha) (by rw [mset_ne (Fr.ne e ha)]; exact e) hf hk hn (h2 a) fun M2 A2 e2 => n a M2 A2 e2
end
end L3
end
section
set_option autoImplicit false
set_option linter.all false
set_option maxRecDepth 100000
/-! L3: promises of the tables' defs -/
namespace L3
open PySem (Addr Str PyData NestedKey)

def pend : D := .tup [.str "pending"]
/-! the next value of a reference: its record, what is far -/
def nextV (S : Tb) (o : Bool) (v n : Int) : D :=
  if v = S.vat then .tup [(dget S.promises (.int n)).getD pend, .non]
  else match dget S.known (rf o v n) with
    | some x => .tup [x, .non]
    | none => .tup [pend, rf o v n]
def sp_is_own : L3.Spec := fun xs M Q _ => ∃ (t : Addr) (lt : Fl → Addr) (S : Tb) (o : Bool) (v n : Int), xs = [.ref t, rf o v n] ∧ TT M t lt S ∧ Q (.bl (decide (v = S.vat))) M
def sp_next_value : L3.Spec := fun xs M Q _ => ∃ (t : Addr) (lt : Fl → Addr) (S : Tb) (o : Bool) (v n : Int), xs = [.ref t, rf o v n] ∧ TT M t lt S ∧ (v.natAbs ≤ 1000000 ∧ n.natAbs ≤ 1000000) ∧ Q (nextV S o v n) M
theorem ln_is_own {xs : List D} {M : Mp} {Q X : Post} (h : sp_is_own xs M Q X) : xs.length = 2 := by obtain ⟨_, _, _, _, _, _, rfl, _⟩ := h; rfl
theorem ln_next_value {xs : List D} {M : Mp} {Q X : Post} (h : sp_next_value xs M Q X) : xs.length = 2 := by obtain ⟨_, _, _, _, _, _, rfl, _⟩ := h; rfl
end L3
namespace L3
open PySem (Addr Str PyData NestedKey)
/-! ### loading -/
theorem dput_new {kvs : List (D × D)} {k v : D} (h : ¬ dhas kvs k = true) : dput kvs k v = kvs ++ [(k, v)] := by unfold dput; rw [if_neg h]
theorem take_dput {kvs : List (D × D)} (ex : ∀ p ∈ kvs, p.1.ex = true) (nd : kvs.Pairwise fun p q => p.1 ≠ q.1) {j : Nat} (hj : j < kvs.length) : dput (kvs.take j) kvs[j].1 kvs[j].2 = kvs.take (j + 1) := by
  rw [dput_new, List.take_succ, List.getElem?_eq_getElem hj]; rfl
  intro h
  unfold dhas at h
  rw [List.any_eq_true] at h
  obtain ⟨p, hp, e⟩ := h
  obtain ⟨i, hi, e2⟩ := List.mem_iff_getElem.mp hp
  rw [List.length_take] at hi
  rw [List.getElem_take] at e2
  subst e2
  have := (eqv_ex (ex _ (List.getElem_mem _)) (ex _ (List.getElem_mem _))).mp e
  exact List.pairwise_iff_getElem.mp nd i j (by omega) hj (by omega) this
theorem nodup_get {kvs : List (D × D)} (ex : ∀ p ∈ kvs, p.1.ex = true) (nd : kvs.Pairwise fun p q => p.1 ≠ q.1) : ∀ {j : Nat} (hj : j < kvs.length), dget kvs kvs[j].1 = some kvs[j].2 := by
  induction kvs with
  | nil => intro j hj; cases hj
  | cons p r ih =>
    intro j hj
    unfold dget
    rw [List.find?_cons]
    cases j with
    | zero => simp [eqv_refl]
    | succ j =>
      have hj' : j < r.length := by simpa using hj
      have hne : p.1.eqv r[j].1 = false := by
        rw [Bool.eq_false_iff]
        intro z
        exact (List.pairwise_cons.mp nd).1 _ (List.getElem_mem hj') ((eqv_ex (ex _ List.mem_cons_self) (ex _ (List.mem_cons_of_mem _ (List.getElem_mem hj')))).mp z)
      simp only [List.getElem_cons_succ, hne]
      exact ih (fun q hq => ex q (List.mem_cons_of_mem _ hq)) (List.pairwise_cons.mp nd).2 hj'
def KOD (hk : D → Bool) (kvs : List (D × D)) : Prop := (∀ p ∈ kvs, hk p.1 = true ∧ p.1.ex = true) ∧ (kvs.Pairwise fun p q => p.1 ≠ q.1) ∧ kvs.length ≤ 100000
def loadB : Ss := .cons (.setIx (.var 3) (.var 5) (.ix (.ix (.var 1) (.var 4)) (.var 5))) .nil
def loadL : Ss := .cons (.expr (.mth (.var 6) .append (.cons (.var 7) .nil))) .nil
section
variable {P : Pr} {X : D → Lo → Mp → Prop} {nx : (Mp → Mp) → Lo → Mp → Prop} {rt : (Mp → Mp) → Post} {bk ct : (Mp → Mp) → Lo → Mp → Prop} {N : Mp} {s b c : Addr} {sd kvs : List (D × D)} {w : Str} {a0 a2 k a6 a7 : Option D}
theorem load_D (h1 : N s = some (.dct sd)) (h2 : dget sd (.str w) = some (.ref b)) (h3 : N b = some (.dct kvs)) (h4 : N c = some (.dct [])) (n1 : c ≠ b) (n2 : c ≠ s) (n3 : b ≠ s) (ok : KOD D.hk1 kvs)
    (q : ∀ k' M', Fr (At c) N (unlk b M') → (unlk b M') c = some (.dct kvs) → nx (unlk b) [a0, some (.ref s), a2, some (.ref c), some (.str w), k', a6, a7] M') :
    wpIt .plain [.ref b] N fun xs G M2 fin => forL (.one 5) (fun D σ M => wpSs P loadB (fun x σ M => X x σ (fin M)) D σ M) G ⟨nx fin, rt fin, bk fin, ct fin⟩ xs [a0, some (.ref s), a2, some (.ref c), some (.str w), k, a6, a7] M2 := by
  obtain ⟨ok1, nd, hl⟩ := ok
  refine (w_itD h3).mpr ?_
  have ex : ∀ p ∈ kvs, p.1.ex = true := fun p hp => (ok1 p hp).2
  refine forL_inv (fun j σ M' => (∀ a, a ≠ c → a ≠ b → N a ≠ none → M' a = N a) ∧ M' b = some (.lck kvs) ∧ M' c = some (.dct (kvs.take j)) ∧ ∃ k', σ = [a0, some (.ref s), a2, some (.ref c), some (.str w), k', a6, a7])
    ⟨fun a _ n _ => mset_ne n, mset_same, by rw [mset_ne n1]; exact h4, k, rfl⟩ ?_ ?_
  · rintro j x σ M' nx' hx ⟨fr, hb, hc, k', rfl⟩ hnx
    refine ⟨hb, ?_⟩
    have hj : j < kvs.length := by have := (List.getElem?_eq_some_iff.mp hx).1; simpa using this
    have hx' : x = kvs[j].1 := by simpa [hj] using hx.symm
    subst hx'
    have hs : M' s = some (.dct sd) := by rw [fr s (Ne.symm n2) (Ne.symm n3) (by rw [h1]; exact nofun)]; exact h1
    unfold loadB
    simp only [wpSs, wpS, wpE, wpTg, List.getElem?_cons_zero, List.getElem?_cons_succ, List.set_cons_zero, List.set_cons_succ, Option.some.injEq, exists_eq_left']
    refine (w_ixD hs).mpr ⟨rfl, _, h2, (w_ixLk hb).mpr ⟨(ok1 _ (List.getElem_mem hj)).1, _, nodup_get ex nd hj, ?_⟩⟩
    refine (w_setD hc).mpr ⟨⟨(ok1 _ (List.getElem_mem hj)).1, by rw [List.length_take]; exact Nat.lt_of_le_of_lt (Nat.le_trans (Nat.min_le_right _ _) hl) (by show 100000 < 2 ^ 24; decide)⟩, hnx _ _ ⟨fun a na nb nn => ?_, ?_, ?_, _, rfl⟩⟩
    · rw [mset_ne na]; exact fr a na nb nn
    · rw [mset_ne (Ne.symm n1)]; exact hb
    · rw [mset_same, take_dput ex nd hj]
  · rintro σ M' ⟨fr, hb, hc, k', rfl⟩
    refine ⟨hb, q k' _ ?_ ?_⟩
    · intro a na nn
      have e : unlk b M' = mset M' b (.dct kvs) := by unfold unlk; rw [hb]; rfl
      rw [e]
      by_cases ab : a = b
      · subst ab; rw [mset_same, h3]
      · rw [mset_ne ab]; exact fr a na ab nn
    · have e : unlk b M' = mset M' b (.dct kvs) := by unfold unlk; rw [hb]; rfl
      rw [e, mset_ne n1, hc, List.length_map, List.take_of_length_le (Nat.le_refl _)]
theorem load_T (h1 : N s = some (.dct sd)) (h2 : dget sd (.str w) = some (.ref b)) (h3 : N b = some (.dcT kvs)) (h4 : N c = some (.dcT [])) (n1 : c ≠ b) (n2 : c ≠ s) (n3 : b ≠ s) (ok : KOD D.hkT kvs)
    (q : ∀ k' M', Fr (At c) N (unlk b M') → (unlk b M') c = some (.dcT kvs) → nx (unlk b) [a0, some (.ref s), a2, some (.ref c), some (.str w), k', a6, a7] M') :
    wpIt .plain [.ref b] N fun xs G M2 fin => forL (.one 5) (fun D σ M => wpSs P loadB (fun x σ M => X x σ (fin M)) D σ M) G ⟨nx fin, rt fin, bk fin, ct fin⟩ xs [a0, some (.ref s), a2, some (.ref c), some (.str w), k, a6, a7] M2 := by
  obtain ⟨ok1, nd, hl⟩ := ok
  refine (w_itT h3).mpr ?_
  have ex : ∀ p ∈ kvs, p.1.ex = true := fun p hp => (ok1 p hp).2
  refine forL_inv (fun j σ M' => (∀ a, a ≠ c → a ≠ b → N a ≠ none → M' a = N a) ∧ M' b = some (.lkT kvs) ∧ M' c = some (.dcT (kvs.take j)) ∧ ∃ k', σ = [a0, some (.ref s), a2, some (.ref c), some (.str w), k', a6, a7])
    ⟨fun a _ n _ => mset_ne n, mset_same, by rw [mset_ne n1]; exact h4, k, rfl⟩ ?_ ?_
  · rintro j x σ M' nx' hx ⟨fr, hb, hc, k', rfl⟩ hnx
    refine ⟨hb, ?_⟩
    have hj : j < kvs.length := by have := (List.getElem?_eq_some_iff.mp hx).1; simpa using this
    have hx' : x = kvs[j].1 := by simpa [hj] using hx.symm
    subst hx'
    have hs : M' s = some (.dct sd) := by rw [fr s (Ne.symm n2) (Ne.symm n3) (by rw [h1]; exact nofun)]; exact h1
    unfold loadB
    simp only [wpSs, wpS, wpE, wpTg, List.getElem?_cons_zero, List.getElem?_cons_succ, List.set_cons_zero, List.set_cons_succ, Option.some.injEq, exists_eq_left']
    refine (w_ixD hs).mpr ⟨rfl, _, h2, (w_ixLkT hb).mpr ⟨(ok1 _ (List.getElem_mem hj)).1, _, nodup_get ex nd hj, ?_⟩⟩
    refine (w_setT hc).mpr ⟨⟨(ok1 _ (List.getElem_mem hj)).1, by rw [List.length_take]; exact Nat.lt_of_le_of_lt (Nat.le_trans (Nat.min_le_right _ _) hl) (by show 100000 < 2 ^ 24; decide)⟩, hnx _ _ ⟨fun a na nb nn => ?_, ?_, ?_, _, rfl⟩⟩
    · rw [mset_ne na]; exact fr a na nb nn
    · rw [mset_ne (Ne.symm n1)]; exact hb
    · rw [mset_same, take_dput ex nd hj]
  · rintro σ M' ⟨fr, hb, hc, k', rfl⟩
    refine ⟨hb, q k' _ ?_ ?_⟩
    · intro a na nn
      have e : unlk b M' = mset M' b (.dcT kvs) := by unfold unlk; rw [hb]; rfl
      rw [e]
      by_cases ab : a = b
      · subst ab; rw [mset_same, h3]
      · rw [mset_ne ab]; exact fr a na ab nn
    · have e : unlk b M' = mset M' b (.dcT kvs) := by unfold unlk; rw [hb]; rfl
      rw [e, mset_ne n1, hc, List.length_map, List.take_of_length_le (Nat.le_refl _)]
theorem load_L {ds : List D} {a3 a5 : Option D} {w : D} (h3 : N b = some (.lst ds)) (h4 : N c = some (.lst [])) (n1 : c ≠ b) (hl : ds.length ≤ 100000)
    (q : ∀ k' M', Fr (At c) N M' → M' c = some (.lst ds) → nx id [a0, some (.ref s), a2, a3, some w, a5, some (.ref c), k'] M') :
    wpIt .plain [.ref b] N fun xs G M2 fin => forL (.one 7) (fun D σ M => wpSs P loadL (fun x σ M => X x σ (fin M)) D σ M) G ⟨nx fin, rt fin, bk fin, ct fin⟩ xs [a0, some (.ref s), a2, a3, some w, a5, some (.ref c), k] M2 := by
  refine (w_itL h3).mpr ?_
  refine forL_inv (fun j σ M' => Fr (At c) N M' ∧ M' c = some (.lst (ds.take j)) ∧ ∃ k', σ = [a0, some (.ref s), a2, a3, some w, a5, some (.ref c), k'])
    ⟨Fr.refl, h4, k, rfl⟩ ?_ ?_
  · rintro j x σ M' nx' hx ⟨fr, hc, k', rfl⟩ hnx
    refine ⟨fr.get (Ne.symm n1) h3, ?_⟩
    have hj : j < ds.length := (List.getElem?_eq_some_iff.mp hx).1
    unfold loadL
    simp only [wpSs, wpS, wpE, wpEs, wpTg, List.getElem?_cons_zero, List.getElem?_cons_succ, List.set_cons_zero, List.set_cons_succ, Option.some.injEq, exists_eq_left']
    refine ⟨by rw [w_rcvL hc]; rfl, trivial, (w_app hc).mpr ⟨by rw [List.length_take]; exact Nat.lt_of_le_of_lt (Nat.le_trans (Nat.min_le_right _ _) hl) (by show 100000 < 2 ^ 24; decide), hnx _ _ ⟨fr.trans (Fr.set rfl), ?_, _, rfl⟩⟩⟩
    rw [mset_same, List.take_succ, hx]; rfl
  · rintro σ M' ⟨fr, hc, k', rfl⟩
    refine ⟨fr.get (Ne.symm n1) h3, q k' _ fr ?_⟩
    rw [List.take_of_length_le (Nat.le_refl _)] at hc
    exact hc
end
theorem TT.wr {M M1 : Mp} {t : Addr} {lt : Fl → Addr} {S : Tb} (h : TT M t lt S) {i : Fl} {o : MO} (f : Fr (At (lt i)) M M1) (e : M1 (lt i) = some o) (ft : Tb.fit i o) : TT M1 t lt (S.put i o) := by
  refine ⟨h.inj, h.ne, ?_, fun j => ?_⟩
  · rw [Tb.put_ins]; exact f.get (h.ne i).symm h.ins
  · by_cases ej : j = i
    · subst ej; rw [e, Tb.put_box ft]
    · rw [Tb.put_ne ej]; exact f.get (fun z => ej (h.inj _ _ z)) (h.box j)
theorem SS.wr {M M1 : Mp} {s : Addr} {ls : Fl → Addr} {S : Tb} (h : SS M s ls S) {i : Fl} {o : MO} (n : i ≠ .order) (f : Fr (At (ls i)) M M1) (e : M1 (ls i) = some o) (ft : Tb.fit i o) : SS M1 s ls (S.put i o) := by
  refine ⟨h.inj, h.ne, ?_, fun j nj => ?_⟩
  · rw [Tb.put_dct]; exact f.get (h.ne i n).symm h.dct
  · by_cases ej : j = i
    · subst ej; rw [e, Tb.put_box ft]
    · rw [Tb.put_ne ej]; exact f.get (fun z => ej (h.inj _ _ nj n z)) (h.box j nj)
def loaded (g : D) (S : Tb) : Tb := { T0 S.vat with prog := g, objects := S.objects, promises := S.promises, answers := S.answers, lent := S.lent, held := S.held, known := S.known, hoped := S.hoped, places := S.places, arrived := S.arrived, pins := S.pins, queue := S.queue, parked := S.parked, early := S.early, waiting := S.waiting, listeners := S.listeners, transfers := S.transfers }
structure LoadOk (S : Tb) : Prop where
  objects : KOD D.hk1 S.objects
  promises : KOD D.hk1 S.promises
  answers : KOD D.hkT S.answers
  lent : KOD D.hkT S.lent
  held : KOD D.hkT S.held
  known : KOD D.hkT S.known
  hoped : KOD D.hkT S.hoped
  places : KOD D.hkT S.places
  arrived : KOD D.hkT S.arrived
  pins : KOD D.hkT S.pins
  queue : S.queue.length ≤ 100000
  parked : S.parked.length ≤ 100000
  early : S.early.length ≤ 100000
  waiting : S.waiting.length ≤ 100000
  listeners : S.listeners.length ≤ 100000
  transfers : S.transfers.length ≤ 100000
def sp__law_load : L3.Spec := fun xs M Q _ => ∃ (t : Addr) (lt : Fl → Addr) (s : Addr) (ls : Fl → Addr) (S : Tb) (g : D), xs = [.ref t, .ref s] ∧ TT M t lt { T0 S.vat with prog := g } ∧ SS M s ls S ∧ (∀ a, OT t lt a → OS s ls a → False) ∧ LoadOk S ∧
  ∀ M', TT M' t lt (loaded g S) → Fr (OT t lt) M M' → Q (.ref t) M'
theorem ln__law_load {xs : List D} {M : Mp} {Q X : Post} (h : sp__law_load xs M Q X) : xs.length = 2 := by obtain ⟨_, _, _, _, _, _, rfl, _⟩ := h; rfl
end L3
namespace L3
open PySem (Addr Str PyData NestedKey)
/-! ### telling -/
def sp__law_told : L3.Spec := fun xs M Q _ => ∃ (t : Addr) (lt : Fl → Addr) (S : Tb) (B : Nat), xs = [.ref t] ∧ TT M t lt S ∧ TOk B S ∧ ∀ a M', Deep M' (.ref a) (toldPy S) → Fr No M M' → Q (.ref a) M'
def dueOf (S : Tb) : Tb := { S with order := List.replicate S.log.length (.int S.vat) }
def sp__law_due : L3.Spec := fun xs M Q _ => ∃ (s : Addr) (ls : Fl → Addr) (S : Tb) (B : Nat), xs = [.ref s] ∧ SS M s ls S ∧ TOk B S ∧ S.log.length ≤ 100000 ∧ (D.int S.vat).sm = true ∧ ∀ a M', Deep M' (.ref a) (toldPy (dueOf S)) → Fr No M M' → Q (.ref a) M'
theorem ln__law_told {xs : List D} {M : Mp} {Q X : Post} (h : sp__law_told xs M Q X) : xs.length = 1 := by obtain ⟨_, _, _, _, rfl, _⟩ := h; rfl
theorem ln__law_due {xs : List D} {M : Mp} {Q X : Post} (h : sp__law_due xs M Q X) : xs.length = 1 := by obtain ⟨_, _, _, _, rfl, _⟩ := h; rfl
section
variable {M N : Mp} {xs : List (Addr × MO)} {t s : Addr} {lt ls : Fl → Addr} {S : Tb} {o : MO} {Q : Post}
theorem told_new (A : Al No M xs N) (T : TT N t lt S) (n : ∀ a N', Al No M (xs ++ [(a, o)]) N' → TT N' t lt S → Q (.ref a) N') : wpNew N o Q := fun a h => n a _ (A.snoc h) (T.new h)
theorem due_new (A : Al No M xs N) (T : SS N s ls S) (n : ∀ a N', Al No M (xs ++ [(a, o)]) N' → SS N' s ls S → Q (.ref a) N') : wpNew N o Q := fun a h => n a _ (A.snoc h) (T.new h)
end
theorem deep_row {M : Mp} {a : Addr} {l : List D} (h : M a = some (.lst l)) (s : D.sms l = true) : Deep M (.ref a) (pl l) := .lst h (sms_deep s)
theorem row_at {B : Nat} {S : Tb} (h : TOk B S) {l : List D} (hl : l ∈ S.ls1) : D.sms l = true := (h.rows l hl).1
end L3
namespace L3
theorem fm_const (d : D) : ∀ l : List D, l.filterMap (fun _ => some d) = List.replicate l.length d
  | [] => rfl
  | a :: l => by rw [List.filterMap_cons, List.length_cons, List.replicate_succ, fm_const d l]
end L3
end
section
set_option autoImplicit false
set_option linter.all false
set_option maxRecDepth 100000
/-! L3: promises of the tables' defs: walking promises -/
namespace L3
open PySem (Addr Str PyData NestedKey)

def hdS : D → Str
  | .tup (.str x :: _) => x
  | _ => ""
def argD : D → D
  | .tup (_ :: y :: _) => y
  | _ => .non
def recF (S : Tb) : D → D
  | .tup [_, .int w, .int n] => if w = S.vat then (dget S.promises (.int n)).getD pend else (dget S.known (rf false w n)).getD pend
  | _ => .non
def farF (S : Tb) : D → D
  | .tup [x, .int w, .int n] => if w = S.vat then .non else .tup [x, .int w, .int n]
  | _ => .non
def rsEnd (v : D) : D := if hdS v = "object" then .tup [.tup [.str "object", v], .non] else .tup [.tup [.str "data", v], .non]
def rsF (S : Tb) : Nat → List D → D → D
  | 0, _, _ => .non
  | k + 1, met, v => if hdS v = "promise" then (if (met.any fun z => z.eqv v) = true then .tup [.tup [.str "cycle"], .non] else
      if hdS (recF S v) = "broken" then .tup [recF S v, .non] else if hdS (recF S v) = "fulfilled" then rsF S k (met ++ [v]) (argD (recF S v)) else .tup [pend, farF S v]) else rsEnd v
structure RsOk (R : D → Prop) (V K : Nat) (S : Tb) : Prop where
  pr : ∃ n, DOk KI (Rec R V K) n S.promises
  kn : ∃ n, DOk KR (Stl R) n S.known
  sz : S.promises.length + S.known.length ≤ 900
/-! no more values are met than there are records -/
theorem pigeon : ∀ {l L : List D}, l.Nodup → (∀ x ∈ l, x ∈ L) → l.length ≤ L.length := by
  classical
  intro l
  induction l with
  | nil => intro L _ _; exact Nat.zero_le _
  | cons a l ih =>
    intro L nd h
    obtain ⟨n1, n2⟩ := List.nodup_cons.mp nd
    have ha := h a List.mem_cons_self
    obtain ⟨s, t, e⟩ := List.append_of_mem ha
    have : l.length ≤ (s ++ t).length := ih n2 fun x hx => by
      have := h x (List.mem_cons_of_mem _ hx)
      rw [e] at this
      rcases List.mem_append.mp this with g | g
      · exact List.mem_append_left _ g
      · rcases List.mem_cons.mp g with g | g
        · exact absurd (g ▸ hx) n1
        · exact List.mem_append_right _ g
    rw [e]
    simp only [List.length_append, List.length_cons] at this ⊢
    omega
def metL (S : Tb) : List D := S.promises.map (fun p => match p.1 with
  | .int i => rf false S.vat i
  | _ => .non) ++ S.known.map (·.1)
def MetOk (S : Tb) (met : List D) : Prop := met.Nodup ∧ (∀ x ∈ met, x ∈ metL S) ∧ ∀ x ∈ met, KR x
theorem MetOk.len {S : Tb} {met : List D} (h : MetOk S met) : met.length ≤ S.promises.length + S.known.length := by
  have := pigeon h.1 h.2.1
  unfold metL at this
  simpa using this
section
variable {R : D → Prop} {V K : Nat} {S : Tb} {w n : Int}
theorem rec_cases (ok : RsOk R V K S) : (recF S (rf false w n) = pend ∨ Rec R V K (recF S (rf false w n))) := by
  unfold recF rf
  simp only
  split
  · cases e : dget S.promises (.int n) with
    | none => exact .inl rfl
    | some x =>
      obtain ⟨m, h⟩ := ok.pr
      exact .inr (h.get e)
  · cases e : dget S.known _ with
    | none => exact .inl rfl
    | some x =>
      obtain ⟨m, h⟩ := ok.kn
      exact .inr (.inr (.inl (h.get e)))
theorem rec_ok (ok : RsOk R V K S) : Rec R V K (recF S (rf false w n)) := (rec_cases ok).elim (fun e => .inl e) fun h => h
theorem rec_ful {v : D} (h : Rec R V K v) (e : hdS v = "fulfilled") : ∃ x, v = .tup [.str "fulfilled", x] ∧ Val R x := by
  rcases h with rfl | (⟨x, rfl, h⟩ | ⟨x, rfl, h⟩) | ⟨a, b, c, rfl, _⟩
  · exact absurd e (by decide)
  · exact ⟨x, rfl, h⟩
  · exact absurd e (by show ¬ (("broken" : Str) = "fulfilled"); decide)
  · exact absurd e (by show ¬ (("forwarded" : Str) = "fulfilled"); decide)
theorem met_in (ok : RsOk R V K S) (h1 : w.natAbs ≤ 1000000) (h2 : n.natAbs ≤ 1000000) (e : hdS (recF S (rf false w n)) = "fulfilled") : rf false w n ∈ metL S := by
  have key : recF S (rf false w n) ≠ pend := fun z => by rw [z] at e; exact absurd e (by decide)
  unfold recF rf at key
  simp only at key
  unfold metL
  split at key
  · rename_i hw
    subst hw
    cases g : dget S.promises (.int n) with
    | none => rw [g] at key; exact absurd rfl key
    | some x =>
      obtain ⟨p, hp, ep, _⟩ := dget_mem g
      obtain ⟨m, h⟩ := ok.pr
      obtain ⟨⟨i, hi, hb⟩, _⟩ := h.all p hp
      rw [hi, eqv_ex (x := .int i) (y := .int n) rfl rfl] at ep
      cases ep
      refine List.mem_append_left _ (List.mem_map.mpr ⟨p, hp, ?_⟩)
      rw [hi]
  · rename_i hw
    cases g : dget S.known (rf false w n) with
    | none => unfold rf at g; rw [g] at key; exact absurd rfl key
    | some x =>
      obtain ⟨p, hp, ep, _⟩ := dget_mem g
      obtain ⟨m, h⟩ := ok.kn
      obtain ⟨kr, _⟩ := h.all p hp
      rw [eqv_ex kr.sm.2.1 rfl] at ep
      exact List.mem_append_right _ (List.mem_map.mpr ⟨p, hp, ep⟩)
theorem met_add {met : List D} (ok : RsOk R V K S) (hm : MetOk S met) (h1 : w.natAbs ≤ 1000000) (h2 : n.natAbs ≤ 1000000) (e : hdS (recF S (rf false w n)) = "fulfilled") (ni : ¬ (met.any fun z => z.eqv (rf false w n)) = true) : MetOk S (met ++ [rf false w n]) := by
  refine ⟨?_, fun x hx => ?_, fun x hx => ?_⟩
  · rw [List.nodup_append]
    refine ⟨hm.1, by simp, fun a ha b hb z => ?_⟩
    rw [List.mem_singleton] at hb
    subst hb
    subst z
    exact ni (List.any_eq_true.mpr ⟨_, ha, eqv_refl _⟩)
  · rcases List.mem_append.mp hx with hx | hx
    · exact hm.2.1 x hx
    · rw [List.mem_singleton] at hx; subst hx; exact met_in ok h1 h2 e
  · rcases List.mem_append.mp hx with hx | hx
    · exact hm.2.2 x hx
    · rw [List.mem_singleton] at hx; subst hx; exact ⟨false, w, n, rfl, h1, h2⟩
end
theorem val_hd {R : D → Prop} {v : D} (h : Val R v) : ∃ x ds, v = .tup (.str x :: ds) ∧ (x = "promise" → ∃ w n : Int, v = rf false w n ∧ w.natAbs ≤ 1000000 ∧ n.natAbs ≤ 1000000 ∧ R v) := by
  rcases h with (⟨o, w, n, rfl, h1, h2, h3⟩ | ⟨x, ds, rfl, _, hx, _⟩) | ⟨as, rfl, _⟩
  · cases o with
    | true => exact ⟨_, _, rfl, fun e => absurd e (by decide)⟩
    | false => exact ⟨_, _, rfl, fun _ => ⟨w, n, rfl, h1, h2, h3⟩⟩
  · exact ⟨x, ds, rfl, fun e => absurd e hx⟩
  · exact ⟨_, _, rfl, fun e => absurd e (by decide)⟩
theorem rec_hd {R : D → Prop} {V K : Nat} {v : D} (h : Rec R V K v) : ∃ x ds, v = .tup (.str x :: ds) := by
  rcases h with rfl | (⟨x, rfl, h⟩ | ⟨x, rfl, h⟩) | ⟨a, b, c, rfl, _⟩
  · exact ⟨_, _, rfl⟩
  · exact ⟨_, _, rfl⟩
  · exact ⟨_, _, rfl⟩
  · exact ⟨_, _, rfl⟩
/-- what is far of a promise that has no record -/
theorem next_rs {R : D → Prop} {V K : Nat} {S : Tb} {w n : Int} (ok : RsOk R V K S) : ∃ f, nextV S false w n = .tup [recF S (rf false w n), f] ∧ (hdS (recF S (rf false w n)) ≠ "broken" → hdS (recF S (rf false w n)) ≠ "fulfilled" → f = farF S (rf false w n)) := by
  unfold nextV recF farF
  have e1 : rf false w n = .tup [.str "promise", .int w, .int n] := rfl
  simp only [e1]
  split
  · rename_i hw
    exact ⟨.non, rfl, fun _ _ => rfl⟩
  · rename_i hw
    cases g : dget S.known (.tup [.str "promise", .int w, .int n]) with
    | none => exact ⟨_, rfl, fun _ _ => rfl⟩
    | some x =>
      refine ⟨.non, rfl, fun h1 h2 => ?_⟩
      obtain ⟨m, h⟩ := ok.kn
      rcases h.get g with ⟨y, rfl, _⟩ | ⟨y, rfl, _⟩
      · exact absurd rfl h2
      · exact absurd rfl h1
def sp_resolve : L3.Spec := fun xs M Q _ => ∃ (t : Addr) (lt : Fl → Addr) (S : Tb) (R : D → Prop) (V K : Nat) (v : D), xs = [.ref t, v] ∧ TT M t lt S ∧ RsOk R V K S ∧ Val R v ∧ ∀ M', Fr No M M' → Q (rsF S 1000 [] v) M'
def sp__law_resolve : L3.Spec := fun xs M Q _ => ∃ (s : Addr) (ls : Fl → Addr) (S : Tb) (R : D → Prop) (V K : Nat) (v : D), xs = [.ref s, v] ∧ SS M s ls S ∧ RsOk R V K S ∧ Val R v ∧ ∀ a M' x y, rsF S 1000 [] v = .tup [x, y] → M' a = some (.lst [x, y]) → Fr No M M' → Q (.ref a) M'
theorem ln_resolve {xs : List D} {M : Mp} {Q X : Post} (h : sp_resolve xs M Q X) : xs.length = 2 := by obtain ⟨_, _, _, _, _, _, _, rfl, _⟩ := h; rfl
theorem ln__law_resolve {xs : List D} {M : Mp} {Q X : Post} (h : sp__law_resolve xs M Q X) : xs.length = 2 := by obtain ⟨_, _, _, _, _, _, _, rfl, _⟩ := h; rfl
end L3
end
section
set_option autoImplicit false
set_option linter.all false
set_option maxRecDepth 100000
/-! L3: the drawn tables -/
namespace L3
open PySem (Addr Str PyData NestedKey)

theorem Fr.hideP {O O' : Addr → Prop} {M M1 : Mp} (h : ∀ a, O' a → M a = none) (f : Fr (fun a => O a ∨ O' a) M M1) : Fr O M M1 := fun a n z => f a (fun w => w.elim n fun e => z (h a e)) z
theorem sEnd_nat {n t : Nat} (h : t ≤ n) : sEnd n (t : Int) = t := by
  unfold sEnd
  rw [if_pos (by omega)]
  simp only [Int.toNat_natCast, Nat.min_eq_left h]
theorem cut_lo {α : Type} {l : List α} {t : Nat} (h : t ≤ l.length) : cut l (.int t) .non = l.drop t := by
  show (l.drop (sEnd l.length t)).take (l.length - sEnd l.length t) = _
  rw [sEnd_nat h, List.take_of_length_le (by rw [List.length_drop]; omega)]
theorem cut_hi {α : Type} {l : List α} {t : Nat} (h : t ≤ l.length) : cut l .non (.int t) = l.take t := by
  show (l.drop 0).take (sEnd l.length t - 0) = _
  rw [sEnd_nat h]; rfl
/-- a weight that is small -/
def KF (vat : Int) (d : D) : Prop := ∃ (o : Bool) (v n : Int), d = rf o v n ∧ v ≠ vat ∧ 1 ≤ v ∧ v ≤ 4 ∧ 1 ≤ n ∧ n ≤ 2
theorem KF.kr {v : Int} {d : D} (h : KF v d) : KR d := by
  obtain ⟨o, w, n, rfl, _, h1, h2, h3, h4⟩ := h
  exact ⟨o, w, n, rfl, by omega, by omega⟩
theorem farD_mem {v : Int} {d : D} (h : d ∈ farD (oth v)) : KF v d := by
  unfold farD farW at h
  rcases List.mem_append.mp h with h | h <;> obtain ⟨w, hw, h⟩ := List.mem_flatMap.mp h <;> obtain ⟨h1, h2, h3⟩ := oth_mem hw <;> simp only [List.mem_cons, List.not_mem_nil, or_false] at h <;> rcases h with rfl | rfl
  · exact ⟨true, w, 1, rfl, h1, h2, h3, by decide, by decide⟩
  · exact ⟨true, w, 2, rfl, h1, h2, h3, by decide, by decide⟩
  · exact ⟨false, w, 1, rfl, h1, h2, h3, by decide, by decide⟩
  · exact ⟨false, w, 2, rfl, h1, h2, h3, by decide, by decide⟩
theorem farD_nodup {v : Int} (h0 : 1 ≤ v) (h1 : v ≤ 4) : (farD (oth v)).Pairwise fun a b => a ≠ b := by
  have key : ∀ v : Int, ((farD (oth v)).Pairwise fun a b => a.eqv b = false) → (farD (oth v)).Pairwise fun a b => a ≠ b := fun v h => h.imp fun {a b} e z => by rw [z, eqv_refl] at e; cases e
  have : v = 1 ∨ v = 2 ∨ v = 3 ∨ v = 4 := by omega
  rcases this with rfl | rfl | rfl | rfl <;> exact key _ (by decide +kernel)
/-- the numbers from 101 on are keys -/
def HasI (pm : List (D × D)) (m : Int) : Prop := ∀ k : Int, 101 ≤ k → k < 101 + m → dhas pm (.int k) = true
theorem dhas_put' {kvs : List (D × D)} {k v x : D} (h : dhas kvs x = true) : dhas (dput kvs k v) x = true := by
  rw [dhas_iff] at h ⊢
  by_cases e : x.eqv k = true
  · exact ⟨v, dget_put e⟩
  · rw [dget_put_ne e]; exact h
theorem HasI.put {pm : List (D × D)} {m : Int} {k v : D} (h : HasI pm m) : HasI (dput pm k v) m := fun x h1 h2 => dhas_put' (h x h1 h2)
theorem HasI.add {pm : List (D × D)} {i : Nat} {v : D} (h : HasI pm i) : HasI (dput pm (.int (0 + (i : Int) + 101)) v) ((i + 1 : Nat) : Int) := fun x h1 h2 => by
  by_cases e : x = 0 + (i : Int) + 101
  · subst e; exact dhas_iff.mpr ⟨v, dget_put (eqv_refl _)⟩
  · exact dhas_put' (h x h1 (by omega))
theorem HasI.pos {pm : List (D × D)} {m : Int} (h : HasI pm m) (hm : 1 ≤ m) : 0 < pm.length := by
  have := h 101 (by omega) (by omega)
  cases pm with
  | nil => exact absurd this Bool.false_ne_true
  | cons => exact Nat.succ_pos _
/-- an own reference of the draws -/
def OwR (vat top : Int) (r : D) : Prop := (∃ n : Int, r = rf true vat n ∧ 101 ≤ n ∧ n ≤ 103) ∨ ∃ n : Int, r = rf false vat n ∧ 101 ≤ n ∧ n < 101 + top
def KO (vat top : Int) (r : D) : Prop := KR r ∧ OwR vat top r
theorem KO.ok {vat top : Int} : KOk (KO vat top) := ⟨fun d h => KR.ok.1 d h.1, fun d e h h' => KR.ok.2 d e h.1 h'.1, fun d h => KR.ok.3 d h.1⟩
/-- a weight that is something -/
def Wpo (d : D) : Prop := ∃ w, d = pr w ∧ WOk 17 4 w ∧ 0 < w.1
theorem KO.kr {vat top : Int} {n : Nat} {kvs : List (D × D)} (h : DOk (KO vat top) Wpo n kvs) : DOk KR (Wt 17 4) n kvs ∧ ∀ p ∈ kvs, OwR vat top p.1 ∧ Wpo p.2 :=
  ⟨⟨fun p hp => ⟨(h.all p hp).1.1, let ⟨w, e, a, _⟩ := (h.all p hp).2; ⟨w, e, a⟩⟩, h.nd, h.len⟩, fun p hp => ⟨(h.all p hp).1.2, (h.all p hp).2⟩⟩
/-- an answer of the draws: its number, what is left of it -/
def KPn (d : D) : Prop := KP d ∧ ∃ v q : Int, d = .tup [.int v, .int q] ∧ q < 50
theorem KPn.ok : KOk KPn := ⟨fun d h => KP.ok.1 d h.1, fun d e h h' => KP.ok.2 d e h.1 h'.1, fun d h => KP.ok.3 d h.1⟩
def AnP (R : D → Prop) (d : D) : Prop := Ans R 17 4 d ∧ ∃ (s r : D) (w : W), d = .tup [s, r, pr w] ∧ 0 < w.1
theorem KPn.kp {R : D → Prop} {n : Nat} {kvs : List (D × D)} (h : DOk KPn (AnP R) n kvs) : DOk KP (Ans R 17 4) n kvs ∧ ∀ p ∈ kvs, KPn p.1 ∧ AnP R p.2 :=
  ⟨⟨fun p hp => ⟨(h.all p hp).1.1, (h.all p hp).2.1⟩, h.nd, h.len⟩, h.all⟩
/-- the tables as they are drawn -/
structure Tbl (S : Tb) : Prop where
  gn : Gn S
  top : S.top ≤ 6
  objects : DOk KI (Thing (Rt S.vat S.top)) 3 S.objects
  promises : DOk KI (Rec (Rt S.vat S.top) 17 4) 9 S.promises
  prom0 : HasI S.promises S.top
  obj0 : HasI S.objects 3
  answers : DOk KP (Ans (Rt S.vat S.top) 17 4) 3 S.answers
  lent : DOk KR (Wt 17 4) 9 S.lent
  held : DOk KR (Wt 17 4) 12 S.held
  heldK : (S.held.map (·.1)).Perm (farD (oth S.vat))
  known : DOk KR (Stl (Rt S.vat S.top)) 12 S.known
  rest : S = { T0 S.vat with top := S.top, objects := S.objects, promises := S.promises, answers := S.answers, lent := S.lent, held := S.held, known := S.known }
  lentO : ∀ p ∈ S.lent, OwR S.vat S.top p.1 ∧ Wpo p.2
  ansN : ∀ p ∈ S.answers, KPn p.1 ∧ AnP (Rt S.vat S.top) p.2
def sp__law_table : L3.Spec := fun xs M Q _ => ∃ (b d : Addr), xs = [.ref b] ∧ BX M b d ∧ ∀ s ls S M', SB M' b d s ls S → Tbl S → Fr (At b) M M' → (∀ a, OS s ls a → M a = none) → Q (.ref s) M'
theorem ln__law_table {xs : List D} {M : Mp} {Q X : Post} (h : sp__law_table xs M Q X) : xs.length = 1 := by obtain ⟨_, _, rfl, _⟩ := h; rfl
/-- while the tables are drawn: p, a list that stays -/
structure TI (M0 : Mp) (b d s : Addr) (ls : Fl → Addr) (p : Addr) (os : List D) (M : Mp) (S : Tb) : Prop where
  sb : SB M b d s ls S
  pl : M p = some (.lst os)
  fr : Fr (fun a => a = b ∨ OS s ls a) M0 M
  pb : p ≠ b
  ps : ¬ OS s ls p
section
variable {M0 M M1 : Mp} {b d s p q : Addr} {ls : Fl → Addr} {os : List D} {S : Tb} {o : MO}
theorem TI.draw (h : TI M0 b d s ls p os M S) (x : BX M1 b d) (f : Fr (At b) M M1) : TI M0 b d s ls p os M1 S :=
  ⟨h.sb.at_ x f, f.get (fun e => h.pb e) h.pl, h.fr.trans (f.mono fun a e => .inl e), h.pb, h.ps⟩
theorem TI.no (h : TI M0 b d s ls p os M S) (f : Fr No M M1) : TI M0 b d s ls p os M1 S :=
  ⟨h.sb.no f, f.get (fun e => e) h.pl, h.fr.trans f.any, h.pb, h.ps⟩
theorem TI.new (h : TI M0 b d s ls p os M S) (hq : M q = none) : TI M0 b d s ls p os (mset M q o) S := h.no (Fr.new hq)
theorem SB.wr (h : SB M b d s ls S) {i : Fl} (n : i ≠ .order) (f : Fr (At (ls i)) M M1) (e : M1 (ls i) = some o) (ft : Tb.fit i o) : SB M1 b d s ls (S.put i o) :=
  ⟨h.bx.fr f (fun e => h.nb (.inr ⟨i, n, e⟩)) (fun e => h.nd (.inr ⟨i, n, e⟩)), h.ss.wr n f e ft, h.nb, h.nd⟩
theorem TI.put (h : TI M0 b d s ls p os M S) (i : Fl) (n : i ≠ .order) (ft : Tb.fit i o) : TI M0 b d s ls p os (mset M (ls i) o) (S.put i o) :=
  ⟨h.sb.wr n (Fr.set rfl) mset_same ft, by rw [mset_ne (fun e => h.ps (.inr ⟨i, n, e⟩))]; exact h.pl, h.fr.trans (Fr.set (.inr (.inr ⟨i, n, rfl⟩))), h.pb, h.ps⟩
end
theorem dput_pos {kvs : List (D × D)} {k v : D} : 0 < (dput kvs k v).length := by
  unfold dput
  split
  · rename_i h
    rw [List.length_map]
    cases kvs with
    | nil => exact absurd h Bool.false_ne_true
    | cons p r => exact Nat.succ_pos _
  · rw [List.length_append]; exact Nat.succ_pos _
theorem len_lt {kvs : List (D × D)} {K V : D → Prop} {n : Nat} (h : DOk K V n kvs) (hn : n ≤ 100000) : kvs.length < PySem.sizeLine := Nat.lt_of_le_of_lt h.len (Nat.lt_of_le_of_lt hn (by show 100000 < 2 ^ 24; decide))
theorem Txt1.p : Txt1 "p" := ⟨rfl, Nat.le_of_ble_eq_true rfl⟩
theorem Txt1.q : Txt1 "q" := ⟨rfl, Nat.le_of_ble_eq_true rfl⟩
theorem dput_keys {kvs : List (D × D)} {k v : D} (h : ¬ dhas kvs k = true) : (dput kvs k v).map (·.1) = kvs.map (·.1) ++ [k] := by rw [dput_new h]; simp
theorem not_has {kvs : List (D × D)} {k : D} (ex : ∀ p ∈ kvs, p.1.ex = true) (hk : k.ex = true) (h : k ∉ kvs.map (·.1)) : ¬ dhas kvs k = true := by
  intro z
  unfold dhas at z
  rw [List.any_eq_true] at z
  obtain ⟨p, hp, e⟩ := z
  exact h (List.mem_map.mpr ⟨p, hp, (eqv_ex (ex p hp) hk).mp e⟩)
theorem take_notin {xs : List D} (nd : xs.Pairwise fun a b => a ≠ b) {i : Nat} (hi : i < xs.length) : xs[i] ∉ xs.take i := by
  intro h
  obtain ⟨j, hj, e⟩ := List.mem_iff_getElem.mp h
  rw [List.length_take] at hj
  rw [List.getElem_take] at e
  exact List.pairwise_iff_getElem.mp nd j i (by omega) hi (by omega) e
end L3
end
section
set_option autoImplicit false
set_option linter.all false
set_option maxRecDepth 100000
/-! L3: joining the tables' promises -/
namespace L3
open PySem (Addr Str PyData NestedKey)

theorem told_sm {d : D} (h : d.sm = true) (h1 : d.bk ≤ 200000) (h2 : d.dp ≤ 40) : Told d.py := by
  obtain ⟨a, b⟩ := sm_show h
  refine ⟨a, ?_, by rw [dp_py h]; exact h2⟩
  refine Nat.le_trans (PyData.shown_le_bulk 64 (by decide) _ b) ?_
  rw [bk_py h]
  show (64 + 2) * d.bk + 64 ≤ 2 ^ 24
  omega
theorem mset_eta {M : Mp} {a : Addr} {o : MO} (h : M a = some o) : mset M a o = M := by
  funext c
  by_cases e : c = a
  · subst e; rw [mset_same, h]
  · rw [mset_ne e]
theorem unlk_D {M : Mp} {a : Addr} {kvs : List (D × D)} (h : M a = some (.dct kvs)) : unlk a (mset M a (.lck kvs)) = M := by
  unfold unlk
  rw [mset_same]
  show mset (mset M a (.lck kvs)) a (.dct kvs) = M
  rw [mset_mset, mset_eta h]
theorem unlk_T {M : Mp} {a : Addr} {kvs : List (D × D)} (h : M a = some (.dcT kvs)) : unlk a (mset M a (.lkT kvs)) = M := by
  unfold unlk
  rw [mset_same]
  show mset (mset M a (.lkT kvs)) a (.dcT kvs) = M
  rw [mset_mset, mset_eta h]
/-- a comprehension over a dict's keys that changes nothing -/
theorem comp_T {M : Mp} {a : Addr} {kvs : List (D × D)} {body : D → Mp → (Option D → Mp → Prop) → Prop} {Q : (Mp → Mp) → Mp → List D → Prop} (h : M a = some (.dcT kvs)) (g : D → Option D) (hl : kvs.length ≤ 100000)
    (hb : ∀ x ∈ kvs.map (·.1), ∀ kk : Option D → Mp → Prop, kk (g x) (mset M a (.lkT kvs)) → body x (mset M a (.lkT kvs)) kk) (q : Q (unlk a) (mset M a (.lkT kvs)) ((kvs.map (·.1)).filterMap g)) :
    wpIt .plain [.ref a] M fun xs G M2 fin => compL body G xs [] M2 fun acc M5 => Q fin M5 acc := by
  refine (w_itT h).mpr ?_
  refine compL_pure g mset_same hb (by rw [List.length_map]; show 0 + _ ≤ 2 ^ 24; omega) ?_
  exact q
theorem comp_D {M : Mp} {a : Addr} {kvs : List (D × D)} {body : D → Mp → (Option D → Mp → Prop) → Prop} {Q : (Mp → Mp) → Mp → List D → Prop} (h : M a = some (.dct kvs)) (g : D → Option D) (hl : kvs.length ≤ 100000)
    (hb : ∀ x ∈ kvs.map (·.1), ∀ kk : Option D → Mp → Prop, kk (g x) (mset M a (.lck kvs)) → body x (mset M a (.lck kvs)) kk) (q : Q (unlk a) (mset M a (.lck kvs)) ((kvs.map (·.1)).filterMap g)) :
    wpIt .plain [.ref a] M fun xs G M2 fin => compL body G xs [] M2 fun acc M5 => Q fin M5 acc := by
  refine (w_itD h).mpr ?_
  refine compL_pure g mset_same hb (by rw [List.length_map]; show 0 + _ ≤ 2 ^ 24; omega) ?_
  exact q
/-! the promises among the far references -/
def isPr (x : D) : Option D := if hdS x = "promise" then some x else none
theorem isPr_t : ∀ os : List Int, (farW true os).filterMap isPr = []
  | [] => rfl
  | v :: os => by
    have h := isPr_t os
    unfold farW at h ⊢
    rw [List.flatMap_cons, List.filterMap_append, h]
    rfl
theorem isPr_f : ∀ os : List Int, (farW false os).filterMap isPr = farW false os
  | [] => rfl
  | v :: os => by
    have h := isPr_f os
    unfold farW at h ⊢
    rw [List.flatMap_cons, List.filterMap_append, h]
    rfl
theorem pr_of {l : List D} {v : Int} (h0 : 1 ≤ v) (h1 : v ≤ 4) (h : l.Perm (farD (oth v))) : (l.filterMap isPr).length = 6 ∧ ∀ x ∈ l.filterMap isPr, ∃ w n : Int, x = rf false w n ∧ w.natAbs ≤ 1000000 ∧ n.natAbs ≤ 1000000 := by
  refine ⟨?_, fun x hx => ?_⟩
  · rw [(h.filterMap isPr).length_eq]
    unfold farD
    rw [List.filterMap_append, isPr_t, isPr_f, List.nil_append, farW_len, oth_len h0 h1]
  · obtain ⟨y, hy, e⟩ := List.mem_filterMap.mp hx
    obtain ⟨o, w, n, rfl, _, w0, w1, n0, n1⟩ := farD_mem (h.mem_iff.mp hy)
    cases o with
    | true => cases e
    | false =>
      have e : some (rf false w n) = some x := e
      cases e
      exact ⟨w, n, rfl, by omega, by omega⟩
/-! the same walk of promises in two tables -/
theorem rsF_congr {S S' : Tb} (h1 : S.vat = S'.vat) (h2 : S.promises = S'.promises) (h3 : S.known = S'.known) : ∀ (k : Nat) (met : List D) (v : D), rsF S k met v = rsF S' k met v := by
  have r : ∀ v, recF S v = recF S' v := fun v => by unfold recF; rw [h1, h2, h3]
  have f : ∀ v, farF S v = farF S' v := fun v => by unfold farF; rw [h1]
  intro k
  induction k with
  | zero => intros; rfl
  | succ k ih => intro met v; rw [rsF, rsF, r, f, ih]
theorem rs_sm {R : D → Prop} {V K : Nat} {S : Tb} (ok : RsOk R V K S) (hV : V ≤ 2 ^ 20) (hK : K ≤ 39) : ∀ (k : Nat) (met : List D) (v : D), Val R v → rsF S k met v = .non ∨ (rsF S k met v).sm = true ∧ (rsF S k met v).bk ≤ 200 ∧ (rsF S k met v).dp ≤ 8 := by
  intro k
  induction k with
  | zero => intros; exact .inl rfl
  | succ k ih =>
    intro met v hv
    have sv := hv.sm
    obtain ⟨x, ds, ev, hx⟩ := val_hd hv
    have h0 : hdS v = x := by rw [ev]; rfl
    have two : ∀ a b : D, a.sm = true → b.sm = true → a.bk ≤ 150 → b.bk ≤ 40 → a.dp ≤ 7 → b.dp ≤ 7 → (D.tup [a, b]).sm = true ∧ (D.tup [a, b]).bk ≤ 200 ∧ (D.tup [a, b]).dp ≤ 8 := fun a b h1 h2 h3 h4 h5 h6 => by
      refine ⟨smt (smc h1 (smc h2 smn)), ?_, ?_⟩
      · show a.bk + 1 + (b.bk + 1 + 0) ≤ 200; omega
      · show max a.dp (max b.dp 0) + 1 ≤ 8; omega
    rw [rsF]
    split
    · rename_i e
      rw [h0] at e
      obtain ⟨w, n, ew, hw, hn, _⟩ := hx e
      have rk := rec_ok (w := w) (n := n) ok
      rw [← ew] at rk
      have rs := rk.sm hV hK
      split
      · exact .inr (two _ _ rfl rfl (Nat.le_of_ble_eq_true rfl) (Nat.le_of_ble_eq_true rfl) (Nat.le_of_ble_eq_true rfl) (Nat.le_of_ble_eq_true rfl))
      · split
        · exact .inr (two _ _ rs.1 rfl (by omega) (Nat.zero_le _) (by omega) (Nat.zero_le _))
        · split
          · rename_i ef
            obtain ⟨z, ez, hz⟩ := rec_ful rk ef
            rw [ez]
            exact ih _ _ hz
          · refine .inr ?_
            have krv : KR (rf false w n) := ⟨false, w, n, rfl, hw, hn⟩
            have : farF S v = .non ∨ farF S v = v := by
              rw [ew]; unfold farF rf; simp only; split
              · exact .inl rfl
              · exact .inr rfl
            rcases this with e | e
            · rw [e]; exact two _ _ rfl rfl (Nat.le_of_ble_eq_true rfl) (Nat.zero_le _) (Nat.le_of_ble_eq_true rfl) (Nat.zero_le _)
            · rw [e, ew]; exact two _ _ rfl krv.sm.1 (Nat.le_of_ble_eq_true rfl) (by have := krv.sm.2.2.1; omega) (Nat.le_of_ble_eq_true rfl) (by have := krv.sm.2.2.2.1; omega)
    · refine .inr ?_
      unfold rsEnd
      have in1 : ∀ y : Str, (D.str y).sm = true → y.cps.size ≤ 10 → (D.tup [.str y, v]).sm = true ∧ (D.tup [.str y, v]).bk ≤ 150 ∧ (D.tup [.str y, v]).dp ≤ 7 := fun y h1 h2 => by
        refine ⟨smt (smc h1 (smc sv.1 smn)), ?_, ?_⟩
        · show y.cps.size + 1 + (v.bk + 1 + 0) ≤ 150; omega
        · show max 0 (max v.dp 0) + 1 ≤ 7; omega
      split
      · obtain ⟨a, b, c⟩ := in1 "object" rfl (Nat.le_of_ble_eq_true rfl)
        exact two _ _ a rfl b (Nat.zero_le _) c (Nat.zero_le _)
      · obtain ⟨a, b, c⟩ := in1 "data" rfl (Nat.le_of_ble_eq_true rfl)
        exact two _ _ a rfl b (Nat.zero_le _) c (Nat.zero_le _)
/-! what is drawn can be told and loaded -/
theorem DOk.kodT {V : D → Prop} {n : Nat} {kvs : List (D × D)} (h : DOk KR V n kvs) (hn : n ≤ 100000) : KOD D.hkT kvs := ⟨fun p hp => ⟨(h.all p hp).1.sm.2.2.2.2, (h.all p hp).1.sm.2.1⟩, h.nd, Nat.le_trans h.len hn⟩
theorem DOk.kodP {V : D → Prop} {n : Nat} {kvs : List (D × D)} (h : DOk KP V n kvs) (hn : n ≤ 100000) : KOD D.hkT kvs := ⟨fun p hp => ⟨(h.all p hp).1.sm.2.2.2.2, (h.all p hp).1.sm.2.1⟩, h.nd, Nat.le_trans h.len hn⟩
theorem DOk.kodI {V : D → Prop} {n : Nat} {kvs : List (D × D)} (h : DOk KI V n kvs) (hn : n ≤ 100000) : KOD D.hk1 kvs := ⟨fun p hp => ⟨(h.all p hp).1.sm.2.2.2.2, (h.all p hp).1.sm.2.1⟩, h.nd, Nat.le_trans h.len hn⟩
theorem KOD.nil {hk : D → Bool} : KOD hk [] := ⟨fun _ h => absurd h List.not_mem_nil, .nil, Nat.zero_le _⟩
theorem rows_nil {n : Nat} : LOk n [] := ⟨rfl, Nat.zero_le _, Nat.zero_le _⟩
/-- tables with the drawn kinds of entries, all others empty -/
structure Tb0 (R : D → Prop) (V K n : Nat) (S : Tb) : Prop where
  objects : DOk KI (Thing R) n S.objects
  promises : DOk KI (Rec R V K) n S.promises
  answers : DOk KP (Ans R V K) n S.answers
  lent : DOk KR (Wt V K) n S.lent
  held : DOk KR (Wt V K) n S.held
  known : DOk KR (Stl R) n S.known
theorem Sm.of {n : Nat} {d : D} (h : d.sm = true ∧ d.bk ≤ n ∧ d.dp ≤ 5) : Sm n d := ⟨h.1, h.2.1, by have := h.2.2; omega⟩
section
variable {R : D → Prop} {V K n m : Nat} {S : Tb}
theorem Sm.wt {V K : Nat} {d : D} (h : Wt V K d) (hV : V ≤ 2 ^ 20) (hK : K ≤ 39) : Sm 2 d := let a := h.sm hV hK; ⟨a.1, a.2.1, by have := a.2.2; omega⟩
theorem Tb0.told {B : Nat} (h : Tb0 R V K n S) (hV : V ≤ 2 ^ 20) (hK : K ≤ 39) (hB : (230 + 23) * n ≤ B) (he : S.made.natAbs ≤ 1000000 ∧ S.sent.natAbs ≤ 1000000 ∧ S.asked.natAbs ≤ 1000000) (h1 : S.hoped = []) (h2 : S.places = []) (h3 : S.arrived = []) (h4 : S.pins = []) (hr : ∀ l ∈ S.ls1, LOk B l) : TOk B S where
  made := he.1
  sent := he.2.1
  asked := he.2.2
  objects := .of h.objects (fun _ h => Sm.of h.sm) hB
  promises := .of h.promises (fun _ h => Sm.of (n := 110) (let a := h.sm hV hK; ⟨a.1, a.2.1, by have := a.2.2; omega⟩)) (by omega)
  answers := .of h.answers (fun _ h => Sm.of (h.sm hV hK)) (by omega)
  lent := .of h.lent (fun _ h => Sm.wt h hV hK) (by omega)
  held := .of h.held (fun _ h => Sm.wt h hV hK) (by omega)
  known := .of h.known (fun _ h => Sm.of (n := 110) (let a := h.sm; ⟨a.1, a.2.1, by have := a.2.2; omega⟩)) (by omega)
  hoped := by rw [h1]; exact .nil
  places := by rw [h2]; exact .nil
  arrived := by rw [h3]; exact .nil
  pins := by rw [h4]; exact .nil
  rows := hr
theorem Tb0.load (h : Tb0 R V K n S) (hn : n ≤ 100000) (h1 : S.hoped = []) (h2 : S.places = []) (h3 : S.arrived = []) (h4 : S.pins = []) (hq : S.queue = [] ∧ S.parked = [] ∧ S.early = [] ∧ S.waiting = [] ∧ S.listeners = [] ∧ S.transfers = []) : LoadOk S where
  objects := h.objects.kodI hn
  promises := h.promises.kodI hn
  answers := h.answers.kodP hn
  lent := h.lent.kodT hn
  held := h.held.kodT hn
  known := h.known.kodT hn
  hoped := by rw [h1]; exact KOD.nil
  places := by rw [h2]; exact KOD.nil
  arrived := by rw [h3]; exact KOD.nil
  pins := by rw [h4]; exact KOD.nil
  queue := by rw [hq.1]; exact Nat.zero_le _
  parked := by rw [hq.2.1]; exact Nat.zero_le _
  early := by rw [hq.2.2.1]; exact Nat.zero_le _
  waiting := by rw [hq.2.2.2.1]; exact Nat.zero_le _
  listeners := by rw [hq.2.2.2.2.1]; exact Nat.zero_le _
  transfers := by rw [hq.2.2.2.2.2]; exact Nat.zero_le _
end
theorem Tbl.tb0 {S : Tb} (h : Tbl S) : Tb0 (Rt S.vat S.top) 17 4 12 S := ⟨h.objects.mono (fun _ h => h) (by decide), h.promises.mono (fun _ h => h) (by decide), h.answers.mono (fun _ h => h) (by decide), h.lent.mono (fun _ h => h) (by decide), h.held, h.known⟩
end L3
namespace L3
open PySem (Addr Str PyData NestedKey)
/-- what is not drawn is empty -/
structure Emp (S : Tb) : Prop where
  made : S.made = 0
  sent : S.sent = 0
  asked : S.asked = 0
  hoped : S.hoped = []
  places : S.places = []
  arrived : S.arrived = []
  pins : S.pins = []
  queue : S.queue = []
  parked : S.parked = []
  early : S.early = []
  waiting : S.waiting = []
  listeners : S.listeners = []
  transfers : S.transfers = []
  out : S.out = []
  log : S.log = []
  order : S.order = []
theorem Tbl.emp {S : Tb} (h : Tbl S) : Emp S := ⟨congrArg Tb.made h.rest, congrArg Tb.sent h.rest, congrArg Tb.asked h.rest, congrArg Tb.hoped h.rest, congrArg Tb.places h.rest, congrArg Tb.arrived h.rest, congrArg Tb.pins h.rest, congrArg Tb.queue h.rest, congrArg Tb.parked h.rest, congrArg Tb.early h.rest, congrArg Tb.waiting h.rest, congrArg Tb.listeners h.rest, congrArg Tb.transfers h.rest, congrArg Tb.out h.rest, congrArg Tb.log h.rest, congrArg Tb.order h.rest⟩
theorem Emp.rows {S : Tb} (h : Emp S) {n : Nat} : ∀ l ∈ S.ls1, LOk n l := by
  intro l hl
  unfold Tb.ls1 at hl
  rw [h.queue, h.parked, h.early, h.waiting, h.listeners, h.transfers, h.out, h.log, h.order] at hl
  simp only [List.mem_cons, List.not_mem_nil, or_false, or_self] at hl
  subst hl
  exact rows_nil
theorem Tb0.emp {R : D → Prop} {V K n B : Nat} {S : Tb} (h : Tb0 R V K n S) (e : Emp S) (hV : V ≤ 2 ^ 20) (hK : K ≤ 39) (hB : (230 + 23) * n ≤ B) : TOk B S :=
  h.told hV hK hB ⟨by rw [e.made]; decide, by rw [e.sent]; decide, by rw [e.asked]; decide⟩ e.hoped e.places e.arrived e.pins e.rows
theorem Tb0.lok {R : D → Prop} {V K n : Nat} {S : Tb} (h : Tb0 R V K n S) (e : Emp S) (hn : n ≤ 100000) : LoadOk S :=
  h.load hn e.hoped e.places e.arrived e.pins ⟨e.queue, e.parked, e.early, e.waiting, e.listeners, e.transfers⟩
theorem Emp.loaded {S : Tb} (e : Emp S) (g : D) : Emp (loaded g S) := ⟨rfl, rfl, rfl, e.hoped, e.places, e.arrived, e.pins, e.queue, e.parked, e.early, e.waiting, e.listeners, e.transfers, rfl, rfl, rfl⟩
theorem Tb0.loaded {R : D → Prop} {V K n : Nat} {S : Tb} (h : Tb0 R V K n S) (g : D) : Tb0 R V K n (loaded g S) := ⟨h.objects, h.promises, h.answers, h.lent, h.held, h.known⟩
/-- what is told of loaded tables is what is told of the law's own -/
theorem Emp.same {S : Tb} (e : Emp S) (g : D) : toldPy (L3.loaded g S) = toldPy (dueOf S) := by
  unfold toldPy Tb.ds1 Tb.ls1 L3.loaded dueOf
  simp only [e.made, e.sent, e.asked, e.out, e.log, T0, List.length_nil, List.replicate_zero]
theorem SB.frO {O : Addr → Prop} {M M1 : Mp} {b d s : Addr} {ls : Fl → Addr} {S : Tb} (h : SB M b d s ls S) (f : Fr O M M1) (nb : ¬ O b) (nd : ¬ O d) (ns : ∀ a, O a → OS s ls a → False) : SB M1 b d s ls S := ⟨h.bx.fr f nb nd, h.ss.fr f ns, h.nb, h.nd⟩
/-- new tables lie apart -/
theorem new_apart {M' M5 : Mp} {p : Addr} {lt : Fl → Addr} {o : MO} (hp : M' p = none) (hlt : ∀ i, (mset M' p o) (lt i) = none) : ∀ a, OT p lt a → M' a = none := by
  rintro a (rfl | ⟨i, rfl⟩)
  · exact hp
  · have h := hlt i
    by_cases e : lt i = p
    · rw [e, mset_same] at h; cases h
    · rwa [mset_ne e] at h
end L3
end
section
set_option autoImplicit false
set_option linter.all false
set_option maxRecDepth 100000
/-! L3: counts, and how lists of numbers are read -/
namespace L3
open PySem (Addr Str PyData NestedKey)

/-- a count's digits -/
def wcF (n : Nat) : List Int := if h : 128 ≤ n then (128 + (n : Int) % 128) :: wcF (n / 128) else [(n : Int)]
termination_by n
decreasing_by omega
theorem wcF_small {n : Nat} (h : n < 128) : wcF n = [(n : Int)] := by
  unfold wcF
  rw [dif_neg (by omega)]
theorem wcF_big {n : Nat} (h : 128 ≤ n) : wcF n = (128 + (n : Int) % 128) :: wcF (n / 128) := by
  rw [wcF, dif_pos h]
theorem wcF_ne {n : Nat} : wcF n ≠ [] := by
  by_cases h : 128 ≤ n
  · rw [wcF_big h]; exact nofun
  · rw [wcF_small (by omega)]; exact nofun
theorem wcF_len : ∀ {k n : Nat}, n < 128 ^ (k + 1) → (wcF n).length ≤ k + 1
  | 0, n, h => by rw [wcF_small (by simpa using h)]; exact Nat.le_refl _
  | k + 1, n, h => by
    by_cases hn : 128 ≤ n
    · rw [wcF_big hn, List.length_cons]
      have : n / 128 < 128 ^ (k + 1) := by
        rw [Nat.pow_succ] at h
        exact Nat.div_lt_of_lt_mul (by rw [Nat.mul_comm]; exact h)
      exact Nat.succ_le_succ (wcF_len this)
    · rw [wcF_small (by omega)]; simp
theorem wcF_rng : ∀ {n : Nat}, ∀ d ∈ wcF n, 0 ≤ d ∧ d < 256 := by
  intro n
  induction n using Nat.strongRecOn with
  | ind n ih =>
    intro d hd
    by_cases hn : 128 ≤ n
    · rw [wcF_big hn] at hd
      rcases List.mem_cons.mp hd with rfl | hd
      · omega
      · exact ih (n / 128) (by omega) d hd
    · rw [wcF_small (by omega), List.mem_singleton] at hd
      subst hd
      omega
/-- what a reading gives, and where it stands behind it; er: where it is malformed -/
inductive Rs (α : Type) where
  | ok (a : α) (at_ : Nat)
  | er (p : Int) (at_ : Nat)
def Rs.bind {α β : Type} : Rs α → (α → Nat → Rs β) → Rs β
  | .ok a i, f => f a i
  | .er p i, _ => .er p i
def Rs.map {α β : Type} (f : α → β) : Rs α → Rs β
  | .ok a i => .ok (f a) i
  | .er p i => .er p i
def digL (ns : List Int) (most : Nat) : Nat → Nat → Nat → Int → Int → Rs Int
  | 0, _, i, total, _ => .ok total i
  | k + 1, done, i, total, unit => match ns[i]? with
    | none => .er ns.length i
    | some d => if done = most ∨ d < 0 ∨ 255 < d ∨ (d = 0 ∧ 0 < done) then .er i i else
        if d < 128 then .ok (total + unit * d) (i + 1) else digL ns most k (done + 1) (i + 1) (total + unit * (d - 128)) (unit * 128)
def digF (ns : List Int) (most i : Nat) : Rs Int := digL ns most (most + 1) 0 i 0 1
def cntF (ns : List Int) (least most : Int) (i : Nat) : Rs Int := (digF ns 5 i).bind fun v j => if v < least ∨ most < v then .er ((j : Int) - 1) j else .ok v j
theorem drop_get {α : Type} {ns : List α} {i : Nat} {d : α} {l : List α} (h : ns.drop i = d :: l) : ns[i]? = some d ∧ ns.drop (i + 1) = l := by
  have h1 : (ns.drop i)[0]? = some d := by rw [h]; rfl
  rw [List.getElem?_drop] at h1
  refine ⟨h1, ?_⟩
  rw [← List.drop_drop, h]
  rfl
theorem digL_wc {ns : List Int} {most : Nat} : ∀ {n k done i : Nat} {total unit : Int} {post : List Int}, ns.drop i = wcF n ++ post → done + (wcF n).length ≤ most → (wcF n).length ≤ k → (0 < done → 0 < n) → digL ns most k done i total unit = .ok (total + unit * n) (i + (wcF n).length) := by
  intro n
  induction n using Nat.strongRecOn with
  | ind n ih =>
    intro k done i total unit post hd hm hk hz
    cases k with
    | zero =>
      have := wcF_ne (n := n)
      cases q : wcF n with
      | nil => exact absurd q this
      | cons _ _ => rw [q] at hk; simp at hk
    | succ k =>
      by_cases hn : 128 ≤ n
      · rw [wcF_big hn] at hd hm hk ⊢
        rw [List.length_cons] at hm hk ⊢
        obtain ⟨g1, g2⟩ := drop_get (show ns.drop i = (128 + (n : Int) % 128) :: (wcF (n / 128) ++ post) from hd)
        unfold digL
        rw [g1]
        simp only
        rw [if_neg (by omega), if_neg (by omega)]
        rw [ih (n / 128) (by omega) g2 (by omega) (by omega) (by omega)]
        have e : total + unit * (128 + (n : Int) % 128 - 128) + unit * 128 * ((n / 128 : Nat) : Int) = total + unit * (n : Int) := by
          have e2 : (n : Int) = (n : Int) % 128 + 128 * ((n / 128 : Nat) : Int) := by omega
          have e3 : (128 : Int) + (n : Int) % 128 - 128 = (n : Int) % 128 := by omega
          rw [e3, Int.add_assoc, Int.mul_assoc, ← Int.mul_add, ← e2]
        rw [e]
        congr 1
        omega
      · rw [wcF_small (by omega)] at hd hm hk ⊢
        obtain ⟨g1, g2⟩ := drop_get (show ns.drop i = (n : Int) :: post from hd)
        unfold digL
        rw [g1]
        simp only
        rw [List.length_singleton] at hm ⊢
        rw [if_neg (by omega), if_pos (by omega)]
theorem digF_wc {ns : List Int} {most n i : Nat} {post : List Int} (hd : ns.drop i = wcF n ++ post) (hm : (wcF n).length ≤ most) : digF ns most i = .ok (n : Int) (i + (wcF n).length) := by
  unfold digF
  rw [digL_wc hd (by omega) (by omega) (by omega)]
  congr 1
  omega
theorem cntF_wc {ns : List Int} {n i : Nat} {least most : Int} {post : List Int} (hd : ns.drop i = wcF n ++ post) (hl : n < 128 ^ 5) (h1 : least ≤ n) (h2 : (n : Int) ≤ most) : cntF ns least most i = .ok (n : Int) (i + (wcF n).length) := by
  unfold cntF
  rw [digF_wc hd (wcF_len hl)]
  show (if _ then _ else _) = _
  rw [if_neg (by omega)]
theorem cntF_bad {ns : List Int} {n i : Nat} {least most : Int} {post : List Int} (hd : ns.drop i = wcF n ++ post) (hl : n < 128 ^ 5) (h : (n : Int) < least ∨ most < n) : cntF ns least most i = .er ((i + (wcF n).length : Nat) - 1) (i + (wcF n).length) := by
  unfold cntF
  rw [digF_wc hd (wcF_len hl)]
  show (if _ then _ else _) = _
  rw [if_pos h]
/-- the list ends within a count -/
theorem digL_cut {ns : List Int} {most : Nat} : ∀ {n k done i : Nat} {total unit : Int} {l l2 : List Int}, ns.drop i = l → wcF n = l ++ l2 → l2 ≠ [] → i ≤ ns.length → done + (wcF n).length ≤ most → (wcF n).length ≤ k → (0 < done → 0 < n) → digL ns most k done i total unit = .er ns.length ns.length := by
  intro n
  induction n using Nat.strongRecOn with
  | ind n ih =>
    intro k done i total unit l l2 hd hw hl2 hi hm hk hz
    cases k with
    | zero =>
      have := wcF_ne (n := n)
      cases q : wcF n with
      | nil => exact absurd q this
      | cons _ _ => rw [q] at hk; simp at hk
    | succ k =>
      cases l with
      | nil =>
        have e : i = ns.length := by
          have := congrArg List.length hd
          rw [List.length_drop] at this
          simp at this
          omega
        subst e
        unfold digL
        rw [List.getElem?_eq_none (Nat.le_refl _)]
      | cons d l =>
        obtain ⟨g1, g2⟩ := drop_get hd
        by_cases hn : 128 ≤ n
        · rw [wcF_big hn] at hw hm hk
          rw [List.length_cons] at hm hk
          obtain ⟨e1, e2⟩ := List.cons.inj hw
          subst e1
          have hi' : i < ns.length := (List.getElem?_eq_some_iff.mp g1).1
          unfold digL
          rw [g1]
          simp only
          rw [if_neg (by omega), if_neg (by omega)]
          exact ih (n / 128) (by omega) g2 e2 hl2 hi' (by omega) (by omega) (by omega)
        · rw [wcF_small (by omega)] at hw
          obtain ⟨_, e2⟩ := List.cons.inj hw
          have := (List.append_eq_nil_iff.mp e2.symm).2
          exact absurd this hl2
theorem cntF_cut {ns : List Int} {n i : Nat} {least most : Int} {l l2 : List Int} (hd : ns.drop i = l) (hw : wcF n = l ++ l2) (h2 : l2 ≠ []) (hi : i ≤ ns.length) (hl : n < 128 ^ 5) : cntF ns least most i = .er ns.length ns.length := by
  have hz := wcF_len hl
  unfold cntF digF
  rw [digL_cut hd hw h2 hi (by omega) (by omega) (by omega)]
  rfl
end L3
end
section
set_option autoImplicit false
set_option linter.all false
set_option maxRecDepth 100000
/-! L3: lists of numbers, written and read: promises -/
namespace L3
open PySem (Addr Str PyData NestedKey)

def chS : Str := " !\"#$&'()*+,-./0123456789:;<=>?@ABCDEFGHIJKLMNOPQRSTUVWXYZ[\\]^_`abcdefghijklmnopqrstuvwxyz{|}~"
/-- a text by its signs' places -/
def txtS (ixs : List Nat) : Str := ⟨(ixs.map fun k => chS.cps.getD k 0).toArray⟩
def TxI (ixs : List Nat) : Prop := ∀ k ∈ ixs, k < 94
def wtF (ixs : List Nat) : List Int := wcF ixs.length ++ ixs.map (fun (k : Nat) => (k : Int))
theorem ch_len : chS.length = 94 := by decide +kernel
def occB (k : Nat) : Bool := match PySem.Builtin.Str.occurrences chS ⟨#[chS.cps.getD k 0]⟩ 0 chS.length 1 with
  | i :: _ => i == k
  | [] => false
theorem occ_all : (List.range 94).all occB = true := by decide +kernel
theorem occ_ch {k : Nat} (h : k < 94) : ∃ r, PySem.Builtin.Str.occurrences chS ⟨#[chS.cps.getD k 0]⟩ 0 chS.length 1 = k :: r := by
  have z := List.all_eq_true.mp occ_all k (List.mem_range.mpr h)
  unfold occB at z
  split at z
  · rename_i i r e
    have e2 : i = k := by simpa using z
    rw [e2] at e
    exact ⟨r, e⟩
  · cases z
theorem txtS_len {ixs : List Nat} : (txtS ixs).length = ixs.length := by
  show ((ixs.map fun k => chS.cps.getD k 0).toArray).size = _
  simp
theorem txtS_cps {ixs : List Nat} : (txtS ixs).cps.toList = ixs.map fun k => chS.cps.getD k 0 := by
  show ((ixs.map fun k => chS.cps.getD k 0).toArray).toList = _
  simp
theorem joinL_nil (c : Nat → Nat) : ∀ ixs : List Nat, TL.joinL [] (ixs.map fun k => [c k]) = ixs.map c
  | [] => rfl
  | [_] => rfl
  | a :: b :: r => by
    show [c a] ++ ([] ++ TL.joinL [] ((b :: r).map fun k => [c k])) = _
    rw [joinL_nil c (b :: r)]
    rfl
theorem join_ch (ixs : List Nat) : PySem.Txt.join "" (ixs.map fun k => (⟨#[chS.cps.getD k 0]⟩ : Str)) = txtS ixs := by
  have h := SX.join_S [] (ixs.map fun k => [chS.cps.getD k 0])
  rw [List.map_map, joinL_nil] at h
  exact h
theorem allS_map : ∀ (ys : List Str), allS (ys.map D.str) = some ys
  | [] => rfl
  | y :: ys => by
    show (allS (ys.map D.str)).map (y :: ·) = _
    rw [allS_map ys]
    rfl
def lsI (xs : List Int) : MO := .lst (xs.map .int)
/-- a new list of numbers -/
def NewL (M : Mp) (xs : List Int) (Q : Post) : Prop := ∀ p M', M p = none → M' p = some (.lst (xs.map .int)) → Fr No M M' → Q (.ref p) M'
def sp_write_count : L3.Spec := fun xs M Q _ => ∃ n : Nat, xs = [.int n] ∧ (wcF n).length ≤ 5000 ∧ NewL M (wcF n) Q
def sp_write_text : L3.Spec := fun xs M Q _ => ∃ ixs : List Nat, xs = [.str (txtS ixs)] ∧ TxI ixs ∧ ixs.length ≤ 100 ∧ NewL M (wtF ixs) Q
def brD (m : Nat) (ixs : List Nat) : D := .tup [.str "break", .int m, .str (txtS ixs)]
def sp_wcBreak : L3.Spec := fun xs M Q _ => ∃ (m : Nat) (ixs : List Nat), xs = [brD m ixs] ∧ m < 128 ^ 5 ∧ TxI ixs ∧ ixs.length ≤ 100 ∧ NewL M (wcF m ++ wtF ixs) Q
def pkD (s r n m : Nat) (ixs : List Nat) : D := .tup [.int s, .int r, .int n, brD m ixs]
def pkF (s r n m : Nat) (ixs : List Nat) : List Int := ([1] ++ wcF s ++ wcF r ++ wcF n) ++ [2] ++ (wcF m ++ wtF ixs)
structure PkB (s r n m : Nat) (ixs : List Nat) : Prop where
  s : 1 ≤ s ∧ s ≤ 9
  r : 1 ≤ r ∧ r ≤ 9
  n : 1 ≤ n ∧ n ≤ 1000000000
  m : 1 ≤ m ∧ m ≤ 1000000000
  t : TxI ixs
  l : ixs.length ≤ 20
def sp_wpBreak : L3.Spec := fun xs M Q _ => ∃ (s r n m : Nat) (ixs : List Nat), xs = [pkD s r n m ixs] ∧ PkB s r n m ixs ∧ NewL M (pkF s r n m ixs) Q
def akF (s r n : Nat) : List Int := [2] ++ wcF s ++ wcF r ++ wcF n
def sp_write_acknowledgement : L3.Spec := fun xs M Q _ => ∃ s r n : Nat, xs = [.int s, .int r, .int n] ∧ s ≤ 9 ∧ r ≤ 9 ∧ n < 128 ^ 5 ∧ NewL M (akF s r n) Q
theorem ln_write_count {xs : List D} {M : Mp} {Q X : Post} (h : sp_write_count xs M Q X) : xs.length = 1 := by obtain ⟨_, rfl, _⟩ := h; rfl
theorem ln_write_text {xs : List D} {M : Mp} {Q X : Post} (h : sp_write_text xs M Q X) : xs.length = 1 := by obtain ⟨_, rfl, _⟩ := h; rfl
theorem ln_wcBreak {xs : List D} {M : Mp} {Q X : Post} (h : sp_wcBreak xs M Q X) : xs.length = 1 := by obtain ⟨_, _, rfl, _⟩ := h; rfl
theorem ln_wpBreak {xs : List D} {M : Mp} {Q X : Post} (h : sp_wpBreak xs M Q X) : xs.length = 1 := by obtain ⟨_, _, _, _, _, rfl, _⟩ := h; rfl
theorem ln_write_acknowledgement {xs : List D} {M : Mp} {Q X : Post} (h : sp_write_acknowledgement xs M Q X) : xs.length = 3 := by obtain ⟨_, _, _, rfl, _⟩ := h; rfl
/-! ### readings -/
def rdO (a : Addr) (i : Nat) : List (Str × D) := [("numbers", .ref a), ("at", .int i)]
structure RdAt (c : Nat) (M : Mp) (r a : Addr) (ns : List Int) (i : Nat) : Prop where
  r : M r = some (.ins c (rdO a i))
  a : M a = some (.lst (ns.map .int))
  n : ns.length ≤ 1000000
  i : i ≤ ns.length
/-- Malformed at a place -/
def mfD (x : Nat) (p : Int) : D := .exn x [.tup [.str "place", .int p]]
def rdSp (c x : Nat) (r a : Addr) (ns : List Int) (M : Mp) (R : Rs D) (Q X : Post) : Prop := match R with
  | .ok d j => ∀ M', Fr (At r) M M' → RdAt c M' r a ns j → Q d M'
  | .er p j => ∀ M', Fr (At r) M M' → RdAt c M' r a ns j → X (mfD x p) M'
def sp_rd_init (c : Nat) : L3.Spec := fun xs M Q _ => ∃ (r a : Addr), xs = [.ref r, .ref a] ∧ M r = some (.ins c []) ∧ Q .non (mset M r (.ins c (rdO a 0)))
def sp_rd_digits (c x : Nat) : L3.Spec := fun xs M Q X => ∃ (r a : Addr) (ns : List Int) (i most : Nat), xs = [.ref r, .int most] ∧ RdAt c M r a ns i ∧ most ≤ 5000 ∧ rdSp c x r a ns M ((digF ns most i).map .int) Q X
def sp_rd_count (c x : Nat) : L3.Spec := fun xs M Q X => ∃ (r a : Addr) (ns : List Int) (i : Nat) (least most : Int), xs = [.ref r, .int least, .int most] ∧ RdAt c M r a ns i ∧ rdSp c x r a ns M ((cntF ns least most i).map .int) Q X
def sp_rd_text1 (c : Nat) : L3.Spec := fun xs M Q _ => ∃ (r a : Addr) (ns : List Int) (i most : Nat) (ixs : List Nat) (post : List Int), xs = [.ref r, .int most] ∧ RdAt c M r a ns i ∧ ns.drop i = wtF ixs ++ post ∧ TxI ixs ∧ ixs.length ≤ most ∧ most ≤ 100 ∧
  ∀ M', Fr (At r) M M' → RdAt c M' r a ns (i + (wtF ixs).length) → Q (.str (txtS ixs)) M'
def sp_rcBreak (c : Nat) : L3.Spec := fun xs M Q _ => ∃ (r a : Addr) (ns : List Int) (i m : Nat) (ixs : List Nat) (post : List Int), xs = [.ref r, .str "break"] ∧ RdAt c M r a ns i ∧ ns.drop i = wcF m ++ (wtF ixs ++ post) ∧ (1 ≤ m ∧ m ≤ 1000000000) ∧ TxI ixs ∧ ixs.length ≤ 20 ∧
  ∀ M', Fr (At r) M M' → RdAt c M' r a ns (i + (wcF m).length + (wtF ixs).length) → Q (brD m ixs) M'
def sp_rpBreak : L3.Spec := fun xs M Q _ => ∃ (a : Addr) (s r n m : Nat) (ixs : List Nat), xs = [.ref a] ∧ M a = some (.lst ((pkF s r n m ixs).map .int)) ∧ PkB s r n m ixs ∧ ∀ M', Fr No M M' → Q (pkD s r n m ixs) M'
/-- an acknowledgement read -/
def akR (s r c : Int) : D := .tup [.str "acknowledgement", .int s, .int r, .int c]
def frA (ns : List Int) : Rs D := if ns.head? = some 2 then
    ((cntF ns 2 2 0).bind fun _ i => (cntF ns 1 9 i).bind fun s i => (cntF ns 1 9 i).bind fun r i => (cntF ns 0 1000000000 i).bind fun c i => if i = ns.length then .ok (akR s r c) i else .er i i)
  else .er 0 0
def frOut (x : Nat) (M : Mp) (R : Rs D) (Q X : Post) : Prop := match R with
  | .ok d _ => ∀ M', Fr No M M' → Q d M'
  | .er p _ => ∀ M', Fr No M M' → X (mfD x p) M'
def sp_rd_frame (x : Nat) : L3.Spec := fun xs M Q X => ∃ (a : Addr) (ns : List Int), xs = [.ref a] ∧ M a = some (.lst (ns.map .int)) ∧ ns.length ≤ 1000000 ∧ ((ns.head? ≠ some 1 ∧ frOut x M (frA ns) Q X) ∨
  ∃ (s r n m : Nat) (ixs : List Nat), ns = pkF s r n m ixs ∧ PkB s r n m ixs ∧ ∀ M', Fr No M M' → Q (.tup [.str "packet", pkD s r n m ixs]) M')
def frQ (d : D) : Rs D → Prop
  | .ok e _ => d = e
  | .er p _ => d = .tup [.str "malformed", .int p]
def frD (ns : List Int) (d : D) : Prop := (ns.head? ≠ some 1 ∧ frQ d (frA ns)) ∨ ∃ (s r n m : Nat) (ixs : List Nat), ns = pkF s r n m ixs ∧ PkB s r n m ixs ∧ d = .tup [.str "packet", pkD s r n m ixs]
def sp_lawread52 : L3.Spec := fun xs M Q _ => ∃ (a : Addr) (ns : List Int) (d : D), xs = [.ref a] ∧ M a = some (.lst (ns.map .int)) ∧ ns.length ≤ 1000000 ∧ frD ns d ∧ ∀ M', Fr No M M' → Q d M'
theorem ln_rd_init {c : Nat} {xs : List D} {M : Mp} {Q X : Post} (h : sp_rd_init c xs M Q X) : xs.length = 2 := by obtain ⟨_, _, rfl, _⟩ := h; rfl
theorem ln_rd_digits {c x : Nat} {xs : List D} {M : Mp} {Q X : Post} (h : sp_rd_digits c x xs M Q X) : xs.length = 2 := by obtain ⟨_, _, _, _, _, rfl, _⟩ := h; rfl
theorem ln_rd_count {c x : Nat} {xs : List D} {M : Mp} {Q X : Post} (h : sp_rd_count c x xs M Q X) : xs.length = 3 := by obtain ⟨_, _, _, _, _, _, rfl, _⟩ := h; rfl
theorem ln_rd_text1 {c : Nat} {xs : List D} {M : Mp} {Q X : Post} (h : sp_rd_text1 c xs M Q X) : xs.length = 2 := by obtain ⟨_, _, _, _, _, _, _, rfl, _⟩ := h; rfl
theorem ln_rcBreak {c : Nat} {xs : List D} {M : Mp} {Q X : Post} (h : sp_rcBreak c xs M Q X) : xs.length = 2 := by obtain ⟨_, _, _, _, _, _, _, rfl, _⟩ := h; rfl
theorem ln_rpBreak {xs : List D} {M : Mp} {Q X : Post} (h : sp_rpBreak xs M Q X) : xs.length = 1 := by obtain ⟨_, _, _, _, _, _, rfl, _⟩ := h; rfl
theorem ln_rd_frame {x : Nat} {xs : List D} {M : Mp} {Q X : Post} (h : sp_rd_frame x xs M Q X) : xs.length = 1 := by obtain ⟨_, _, rfl, _⟩ := h; rfl
theorem ln_lawread52 {xs : List D} {M : Mp} {Q X : Post} (h : sp_lawread52 xs M Q X) : xs.length = 1 := by obtain ⟨_, _, _, rfl, _⟩ := h; rfl
theorem rd_num {a : Addr} {i : Nat} : (rdO a i).lookup ("numbers" : Str) = some (.ref a) := by
  unfold rdO
  rw [List.lookup_cons]
  simp
theorem rd_at {a : Addr} {i : Nat} : (rdO a i).lookup ("at" : Str) = some (.int i) := by
  unfold rdO
  rw [List.lookup_cons]
  have : (("at" : Str) == ("numbers" : Str)) = false := by decide +kernel
  rw [this]
  simp
theorem rd_put {a : Addr} {i : Nat} {j : Int} {k : Nat} (h : j = k) : putFd "at" (.int j) (rdO a i) = rdO a k := by
  unfold rdO putFd putFd
  rw [if_neg (by decide +kernel), if_pos rfl, h]
theorem rd_meth {a : Addr} {i : Nat} {m : Str} (h1 : (m == ("numbers" : Str)) = false) (h2 : (m == ("at" : Str)) = false) : (rdO a i).lookup m = none := by
  unfold rdO
  rw [List.lookup_cons, h1, List.lookup_cons, h2]
  rfl
def rdN (m : Str) : Bool := !(m == ("numbers" : Str)) && !(m == ("at" : Str))
theorem RdAt.m {c : Nat} {M : Mp} {r a : Addr} {ns : List Int} {i : Nat} (R : RdAt c M r a ns i) {m : Str} (h : rdN m = true) : ∃ a' fs, D.ref r = D.ref a' ∧ M a' = some (.ins c fs) ∧ fs.lookup m = none := by
  obtain ⟨h1, h2⟩ := Bool.and_eq_true_iff.mp h
  exact ⟨r, _, rfl, R.r, rd_meth (by simpa using h1) (by simpa using h2)⟩
theorem n_count : rdN "count" = true := by decide +kernel
theorem n_digits : rdN "digits" = true := by decide +kernel
theorem n_text : rdN "text" = true := by decide +kernel
theorem n_value : rdN "value" = true := by decide +kernel
theorem n_atom : rdN "atom" = true := by decide +kernel
theorem n_weight : rdN "weight" = true := by decide +kernel
theorem n_reference : rdN "reference" = true := by decide +kernel
theorem n_big : rdN "big" = true := by decide +kernel
/-- a new reading -/
theorem RdAt.new {c : Nat} {M : Mp} {r a : Addr} {ns : List Int} (hr : M r = none) (ha : M a = some (.lst (ns.map .int))) (hn : ns.length ≤ 1000000) : RdAt c (mset (mset M r (.ins c [])) r (.ins c (rdO a 0))) r a ns 0 := by
  refine ⟨mset_same, ?_, hn, Nat.zero_le _⟩
  have ne : a ≠ r := by rintro rfl; rw [hr] at ha; cases ha
  rw [mset_ne ne, mset_ne ne]
  exact ha
theorem ch_at {k : Nat} (h : k < 94) : atD (chS.cps.toList.map fun c => D.str ⟨#[c]⟩) (k : Int) = some (.str ⟨#[chS.cps.getD k 0]⟩) := by
  have hl : chS.cps.size = 94 := ch_len
  refine atD_nat ?_
  rw [List.getElem?_map]
  have : chS.cps.toList[k]? = some (chS.cps.getD k 0) := by
    rw [Array.getElem?_toList, Array.getD_eq_getD_getElem?, Array.getElem?_eq_getElem (by omega)]
    rfl
  rw [this]
  rfl
theorem RdAt.ra {c : Nat} {M : Mp} {r a : Addr} {ns : List Int} {i : Nat} (h : RdAt c M r a ns i) : a ≠ r := by
  rintro rfl
  have := h.a.symm.trans h.r
  cases this
theorem RdAt.put {c : Nat} {M : Mp} {r a : Addr} {ns : List Int} {i k : Nat} (h : RdAt c M r a ns i) (hk : k ≤ ns.length) : RdAt c (mset M r (.ins c (rdO a k))) r a ns k :=
  ⟨mset_same, (mset_ne h.ra).trans h.a, h.n, hk⟩
theorem RdAt.fr {c : Nat} {M M' : Mp} {r a : Addr} {ns : List Int} {i : Nat} (h : RdAt c M r a ns i) (f : Fr No M M') : RdAt c M' r a ns i := ⟨f.get (fun w => w) h.r, f.get (fun w => w) h.a, h.n, h.i⟩
theorem rdSp.on {c x : Nat} {r a : Addr} {ns : List Int} {M M1 : Mp} {R : Rs D} {Q X : Post} (h : rdSp c x r a ns M R Q X) (f : Fr (At r) M M1) : rdSp c x r a ns M1 R Q X := by
  cases R with
  | ok d j => exact fun M' f' z => h M' (f.trans f') z
  | er p j => exact fun M' f' z => h M' (f.trans f') z
theorem raise_mf {P : Pr} {x : Nat} {p : Int} {M : Mp} {X : Post} (hx : P.exf x = [("place" : Str)]) (hp : p.natAbs < 2 ^ 64) (q : X (mfD x p) M) : ([D.int p].length = (P.exf x).length ∧ ∀ d ∈ [D.int p], d.fmt) ∧ X (.exn x (exnF (P.exf x) [.int p])) M := by
  rw [hx]
  refine ⟨⟨rfl, fun d hd => ?_⟩, q⟩
  rw [List.mem_singleton] at hd
  subst hd
  exact hp
/-- two lists of numbers one behind the other -/
theorem add_LI {M : Mp} {a b : Addr} {xs ys : List Int} {Q : Post} (h1 : M a = some (.lst (xs.map .int))) (h2 : M b = some (.lst (ys.map .int))) (hl : xs.length + ys.length ≤ 1000000) (q : NewL M (xs ++ ys) Q) : wpBin .add (.ref a) (.ref b) M Q := by
  refine (w_addL h1 h2).mpr ⟨by rw [List.length_map, List.length_map]; exact sl_small _ (by omega), fun p hp => ?_⟩
  exact q p _ hp (by rw [mset_same, List.map_append]) (Fr.new hp)
theorem NewL.on {M M1 : Mp} {xs : List Int} {Q : Post} (q : NewL M xs Q) (f : Fr No M M1) : NewL M1 xs Q := fun p M' hp hM f' => q p M' (f.no0 (fun w => w) hp) hM (f.trans f')
end L3
end
section
set_option autoImplicit false
set_option linter.all false
set_option maxRecDepth 100000
/-! L3: frames that are read: what the law of frames asks -/
namespace L3
open PySem (Addr Str PyData NestedKey)

theorem pl_told1 {n : Nat} {ds : List D} (h : LOk n ds) (hn : n ≤ 250000) : Told (pl ds) := by
  obtain ⟨a1, a2, a3, a4⟩ := h.show
  have a3 : (pl ds).bulk ≤ n := a3
  have a4 : (pl ds).depth ≤ 13 := a4
  refine ⟨a1, Nat.le_trans (PyData.shown_le_bulk 64 (by decide) _ a2) ?_, ?_⟩
  · show (64 + 2) * (pl ds).bulk + 64 ≤ 2 ^ 24
    omega
  · show (pl ds).depth ≤ 40
    omega
theorem ints_lok : ∀ {xs : List Int}, (∀ x ∈ xs, x.natAbs < 2 ^ 60) → D.sms (xs.map .int) = true ∧ D.bks (xs.map .int) = xs.length ∧ D.dps (xs.map .int) = 0
  | [], _ => ⟨rfl, rfl, rfl⟩
  | x :: xs, h => by
    obtain ⟨h1, h2, h3⟩ := ints_lok fun y hy => h y (List.mem_cons_of_mem _ hy)
    refine ⟨band_i (decide_eq_true (h x List.mem_cons_self)) h1, ?_, ?_⟩
    · show 0 + 1 + D.bks (xs.map .int) = _
      rw [h2, List.length_cons]
      omega
    · show max 0 (D.dps (xs.map .int)) = 0
      rw [h3]
      rfl
/-- two lists of the same numbers look the same -/
theorem same_ints {M : Mp} {a b : Addr} {xs : List Int} {Q X : Post} (h1 : M a = some (.lst (xs.map .int))) (h2 : M b = some (.lst (xs.map .int))) (h : ∀ x ∈ xs, x.natAbs < 2 ^ 60) (hl : xs.length ≤ 200000) (q : Q (.bl true) M) : sp__law_same [.ref a, .ref b] M Q X := by
  obtain ⟨g1, g2, g3⟩ := ints_lok h
  exact ⟨_, _, pl (xs.map .int), rfl, deep_row h1 g1, deep_row h2 g1, pl_told1 (n := 200000) ⟨g1, by rw [g2]; exact hl, by rw [g3]; omega⟩ (by omega), q⟩
theorem same_val {M : Mp} {d : D} {Q X : Post} (h : d.sm = true) (h1 : d.bk ≤ 200000) (h2 : d.dp ≤ 40) (q : Q (.bl true) M) : sp__law_same [d, d] M Q X := ⟨d, d, d.py, rfl, sm_deep h, sm_deep h, told_sm h h1 h2, q⟩
/-! ### acknowledgements -/
theorem akF_eq {s r n : Nat} (hs : 1 ≤ s ∧ s ≤ 9) (hr : 1 ≤ r ∧ r ≤ 9) : akF s r n = 2 :: (s : Int) :: (r : Int) :: wcF n := by
  unfold akF
  rw [wcF_small (n := s) (by omega), wcF_small (n := r) (by omega)]
  rfl
theorem one_ok {ns : List Int} {v i : Nat} {least most : Int} {post : List Int} (hd : ns.drop i = (v : Int) :: post) (hv : v < 128) (h1 : least ≤ v) (h2 : (v : Int) ≤ most) : cntF ns least most i = .ok (v : Int) (i + 1) := by
  have z := cntF_wc (n := v) (i := i) (ns := ns) (least := least) (most := most) (post := post) (by rw [wcF_small hv]; exact hd) (by omega) h1 h2
  rw [wcF_small hv] at z
  exact z
theorem one_bad {ns : List Int} {v i : Nat} {least most : Int} {post : List Int} (hd : ns.drop i = (v : Int) :: post) (hv : v < 128) (h : (v : Int) < least ∨ most < v) : cntF ns least most i = .er (i : Int) (i + 1) := by
  have z := cntF_bad (n := v) (i := i) (ns := ns) (least := least) (most := most) (post := post) (by rw [wcF_small hv]; exact hd) (by omega) h
  rw [wcF_small hv] at z
  rw [z]
  show Rs.er (((i + 1 : Nat) : Int) - 1) (i + 1) = _
  congr 1
  omega
theorem one_end {ns : List Int} {i : Nat} {least most : Int} (h : ns.length = i) : cntF ns least most i = .er (i : Int) i := by
  unfold cntF digF digL
  rw [List.getElem?_eq_none (by omega)]
  show Rs.er (ns.length : Int) i = _
  rw [h]
/-- what is behind the mark, sender and receiver -/
theorem frA_head {s r : Nat} {l : List Int} (hs : 1 ≤ s ∧ s ≤ 9) (hr : 1 ≤ r ∧ r ≤ 9) : frA (2 :: (s : Int) :: (r : Int) :: l) = (cntF (2 :: (s : Int) :: (r : Int) :: l) 0 1000000000 3).bind fun c i => if i = (2 :: (s : Int) :: (r : Int) :: l).length then .ok (akR s r c) i else .er i i := by
  unfold frA
  rw [if_pos (show ((2 : Int) :: (s : Int) :: (r : Int) :: l).head? = some 2 from rfl)]
  rw [one_ok (v := 2) (post := (s : Int) :: (r : Int) :: l) rfl (by decide) (by decide) (by decide)]
  dsimp only [Rs.bind]
  rw [one_ok (v := s) (post := (r : Int) :: l) rfl (by omega) (by omega) (by omega)]
  dsimp only [Rs.bind]
  rw [one_ok (v := r) (post := l) rfl (by omega) (by omega) (by omega)]
theorem frA_ok {s r n : Nat} (hs : 1 ≤ s ∧ s ≤ 9) (hr : 1 ≤ r ∧ r ≤ 9) (hn : n ≤ 1000000000) : frD (akF s r n) (akR s r n) := by
  rw [akF_eq hs hr]
  refine .inl ⟨nofun, ?_⟩
  rw [frA_head hs hr, cntF_wc (n := n) (post := []) (by simp) (by omega) (by omega) (by omega)]
  dsimp only [Rs.bind]
  rw [if_pos (by simp only [List.length_cons]; omega)]
  rfl
theorem frA_more {s r n : Nat} {x : Int} (hs : 1 ≤ s ∧ s ≤ 9) (hr : 1 ≤ r ∧ r ≤ 9) (hn : n ≤ 1000000000) : frD (akF s r n ++ [x]) (.tup [.str "malformed", .int ((akF s r n).length : Nat)]) := by
  rw [akF_eq hs hr]
  refine .inl ⟨nofun, ?_⟩
  show frQ _ (frA (2 :: (s : Int) :: (r : Int) :: (wcF n ++ [x])))
  rw [frA_head hs hr, cntF_wc (n := n) (post := [x]) rfl (by omega) (by omega) (by omega)]
  dsimp only [Rs.bind]
  rw [if_neg (by simp only [List.length_cons, List.length_append, List.length_nil]; omega)]
  exact congrArg (fun z => D.tup [.str "malformed", .int z]) (by simp only [List.length_cons]; omega)
theorem frA_great {s r n : Nat} (hs : 1 ≤ s ∧ s ≤ 9) (hr : 1 ≤ r ∧ r ≤ 9) (hn : 1000000000 < n) (hl : n < 128 ^ 5) : frD (2 :: (s : Int) :: (r : Int) :: wcF n) (.tup [.str "malformed", .int (2 + ((wcF n).length : Nat))]) := by
  refine .inl ⟨nofun, ?_⟩
  rw [frA_head hs hr, cntF_bad (n := n) (post := []) (by simp) hl (.inr (by omega))]
  dsimp only [Rs.bind]
  exact congrArg (fun z => D.tup [.str "malformed", .int z]) (by omega)
theorem frA_first {f : Int} {l : List Int} (h1 : f ≠ 1) (h2 : f ≠ 2) : frD (f :: l) (.tup [.str "malformed", .int 0]) := by
  refine .inl ⟨by simpa using h1, ?_⟩
  unfold frA
  rw [if_neg (by simpa using h2)]
  rfl
theorem frA_nil : frD [] (.tup [.str "malformed", .int 0]) := by
  refine .inl ⟨nofun, ?_⟩
  unfold frA
  rw [if_neg nofun]
  rfl
theorem frA_v0 {r : Nat} : frD [2, 0, (r : Int), 1] (.tup [.str "malformed", .int 1]) := by
  refine .inl ⟨nofun, ?_⟩
  unfold frA
  rw [if_pos (show ([2, 0, (r : Int), 1] : List Int).head? = some 2 from rfl), one_ok (v := 2) (post := [0, (r : Int), 1]) rfl (by decide) (by decide) (by decide)]
  dsimp only [Rs.bind]
  rw [one_bad (v := 0) (post := [(r : Int), 1]) rfl (by decide) (.inl (by decide))]
  rfl
theorem frA_v10 : frD [2, 1, 10, 1] (.tup [.str "malformed", .int 2]) := by
  refine .inl ⟨nofun, ?_⟩
  unfold frA
  rw [if_pos (show ([2, 1, 10, 1] : List Int).head? = some 2 from rfl), one_ok (v := 2) (post := [1, 10, 1]) rfl (by decide) (by decide) (by decide)]
  dsimp only [Rs.bind]
  rw [one_ok (v := 1) (post := [10, 1]) rfl (by decide) (by decide) (by decide)]
  dsimp only [Rs.bind]
  rw [one_bad (v := 10) (post := [1]) rfl (by decide) (.inr (by decide))]
  rfl
theorem frA_cut {s r n c : Nat} (hs : 1 ≤ s ∧ s ≤ 9) (hr : 1 ≤ r ∧ r ≤ 9) (hn : n ≤ 1000000000) (hc : c < (akF s r n).length) : frD ((akF s r n).take c) (.tup [.str "malformed", .int c]) := by
  rw [akF_eq hs hr] at hc ⊢
  match c, hc with
  | 0, _ => exact frA_nil
  | 1, _ =>
    refine .inl ⟨nofun, ?_⟩
    show frQ _ (frA [2])
    unfold frA
    rw [if_pos (show ([2] : List Int).head? = some 2 from rfl), one_ok (v := 2) (post := []) rfl (by decide) (by decide) (by decide)]
    dsimp only [Rs.bind]
    rw [one_end (by rfl)]
    rfl
  | 2, _ =>
    refine .inl ⟨nofun, ?_⟩
    show frQ _ (frA [2, (s : Int)])
    unfold frA
    rw [if_pos (show ([2, (s : Int)] : List Int).head? = some 2 from rfl), one_ok (v := 2) (post := [(s : Int)]) rfl (by decide) (by decide) (by decide)]
    dsimp only [Rs.bind]
    rw [one_ok (v := s) (post := []) rfl (by omega) (by omega) (by omega)]
    dsimp only [Rs.bind]
    rw [one_end (by rfl)]
    rfl
  | k + 3, hc =>
    refine .inl ⟨nofun, ?_⟩
    have hk : k < (wcF n).length := by simp only [List.length_cons] at hc; omega
    show frQ _ (frA (2 :: (s : Int) :: (r : Int) :: (wcF n).take k))
    have hne : (wcF n).drop k ≠ [] := fun z => by
      have := congrArg List.length z
      rw [List.length_drop, List.length_nil] at this
      omega
    rw [frA_head hs hr, cntF_cut (n := n) (l := (wcF n).take k) (l2 := (wcF n).drop k) rfl (List.take_append_drop k (wcF n)).symm hne (by simp) (by omega)]
    dsimp only [Rs.bind]
    exact congrArg (fun z => D.tup [.str "malformed", .int z]) (by simp only [List.length_cons, List.length_take]; omega)
theorem cutI_hi {xs : List Int} {c : Nat} (h : c ≤ xs.length) : cut (xs.map D.int) .non (.int c) = (xs.take c).map .int := by
  have e : sHi xs.length (D.int c) = c := by
    show (if (0 : Int) ≤ c then min (c : Int).toNat xs.length else ((c : Int) + xs.length).toNat) = c
    rw [if_pos (by omega)]
    omega
  unfold cut
  rw [List.length_map, e]
  show List.take (c - 0) (List.drop 0 (xs.map D.int)) = _
  rw [List.map_take]
  rfl
theorem cutI_lo {x : Int} {xs : List Int} : cut ((x :: xs).map D.int) (.int 1) .non = xs.map .int := by
  have e : sLo (xs.length + 1) (D.int 1) = 1 := by
    show (if (0 : Int) ≤ 1 then min (1 : Int).toNat (xs.length + 1) else ((1 : Int) + (xs.length + 1 : Nat)).toNat) = 1
    rw [if_pos (by decide)]
    show min 1 (xs.length + 1) = 1
    omega
  unfold cut
  rw [List.length_map, List.length_cons, e]
  show List.take (xs.length + 1 - 1) (xs.map D.int) = _
  rw [Nat.add_sub_cancel]
  exact List.take_of_length_le (by rw [List.length_map]; exact Nat.le_refl _)
theorem ak_same {M : Mp} {s r c : Int} {Q X : Post} (hs : s.natAbs < 2 ^ 60) (hr : r.natAbs < 2 ^ 60) (hc : c.natAbs < 2 ^ 60) (q : Q (.bl true) M) : sp__law_same [akR s r c, akR s r c] M Q X := by
  refine same_val ?_ ?_ ?_ q
  · show D.sms [.str "acknowledgement", .int s, .int r, .int c] = true
    exact band_i (show (D.str "acknowledgement").sm = true by decide +kernel) (band_i (decide_eq_true hs) (band_i (decide_eq_true hr) (band_i (decide_eq_true hc) rfl)))
  · have e : (akR s r c).bk = (akR 0 0 0).bk := rfl
    rw [e]
    decide +kernel
  · have e : (akR s r c).dp = (akR 0 0 0).dp := rfl
    rw [e]
    decide +kernel
def mfT (p : Int) : D := .tup [.str "malformed", .int p]
theorem mf_same {M : Mp} {p : Int} {Q X : Post} (h : p.natAbs < 2 ^ 60) (q : Q (.bl true) M) : sp__law_same [mfT p, mfT p] M Q X := by
  refine same_val ?_ ?_ ?_ q
  · show D.sms [.str "malformed", .int p] = true
    exact band_i (show (D.str "malformed").sm = true by decide +kernel) (band_i (decide_eq_true h) rfl)
  · have e : (mfT p).bk = (mfT 0).bk := rfl
    rw [e]
    decide +kernel
  · have e : (mfT p).dp = (mfT 0).dp := rfl
    rw [e]
    decide +kernel
def noI : List Nat := [77, 78]
theorem pk_same {M : Mp} {s r n m : Nat} {Q X : Post} (B : PkB s r n m noI) (q : Q (.bl true) M) : sp__law_same [.tup [.str "packet", pkD s r n m noI], .tup [.str "packet", pkD s r n m noI]] M Q X := by
  have h1 := B.s
  have h2 := B.r
  have h3 := B.n
  have h4 := B.m
  refine same_val ?_ ?_ ?_ q
  · show D.sms [.str "packet", pkD s r n m noI] = true
    refine band_i (show (D.str "packet").sm = true by decide +kernel) (band_i ?_ rfl)
    show D.sms [.int s, .int r, .int n, brD m noI] = true
    refine band_i (decide_eq_true (by omega)) (band_i (decide_eq_true (by omega)) (band_i (decide_eq_true (by omega)) (band_i ?_ rfl)))
    show D.sms [.str "break", .int m, .str (txtS noI)] = true
    exact band_i (show (D.str "break").sm = true by decide +kernel) (band_i (decide_eq_true (by omega)) (band_i (show (D.str (txtS noI)).sm = true by decide +kernel) rfl))
  · have e : (D.tup [.str "packet", pkD s r n m noI]).bk = (D.tup [.str "packet", pkD 0 0 0 0 noI]).bk := rfl
    rw [e]
    decide +kernel
  · have e : (D.tup [.str "packet", pkD s r n m noI]).dp = (D.tup [.str "packet", pkD 0 0 0 0 noI]).dp := rfl
    rw [e]
    decide +kernel
end L3
end
section
set_option autoImplicit false
set_option pp.maxSteps 300
set_option linter.all false
set_option maxRecDepth 100000
set_option maxHeartbeats 4000000
namespace K52
open L3
open PySem (Addr Str PyData NestedKey)

def spK (i : Nat) : L3.Spec := match i with
  | 0 => sp__law_same
  | 1 => sp_rd_digits 0 1
  | 2 => sp_rd_count 0 1
  | 3 => sp_rd_init 0
  | 4 => sp_never
  | 5 => sp_never
  | 6 => sp_rd_text1 0
  | 7 => sp_never
  | 8 => sp_never
  | 9 => sp_never
  | 10 => sp_never
  | 11 => sp_never
  | 12 => sp_never
  | 13 => sp_never
  | 14 => sp_never
  | 15 => sp_never
  | 16 => sp_never
  | 17 => sp_never
  | 18 => sp_never
  | 19 => sp_never
  | 20 => sp_rcBreak 0
  | 21 => sp_rpBreak
  | 22 => sp_rd_frame 1
  | 23 => sp_lawread52
  | 24 => sp_write_count
  | 25 => sp__law_draw
  | 26 => sp_write_count
  | 27 => sp_never
  | 28 => sp_write_text
  | 29 => sp_never
  | 30 => sp_never
  | 31 => sp_never
  | 32 => sp_never
  | 33 => sp_never
  | 34 => sp_never
  | 35 => sp_never
  | 36 => sp_wcBreak
  | 37 => sp_wpBreak
  | 38 => sp_write_acknowledgement
  | 39 => sp__law_cell
  | 40 => sp__law_digits
  | 41 => sp_law
  | _ => fun _ _ _ _ => False
def P0 : Pr := ⟨spK, md.fl, md.tab, md.exf, md.sub, md.isx⟩
theorem q__law_same : P0.sp 0 = sp__law_same := rfl
theorem q_Reading_digits : P0.sp 1 = sp_rd_digits 0 1 := rfl
theorem q_Reading_count : P0.sp 2 = sp_rd_count 0 1 := rfl
theorem q_Reading___init__ : P0.sp 3 = sp_rd_init 0 := rfl
theorem q_Reading_big : P0.sp 4 = sp_never := rfl
theorem q_Reading_weight : P0.sp 5 = sp_never := rfl
theorem q_Reading_text : P0.sp 6 = sp_rd_text1 0 := rfl
theorem q_atoms : P0.sp 7 = sp_never := rfl
theorem q_is_reference : P0.sp 8 = sp_never := rfl
theorem q_references : P0.sp 9 = sp_never := rfl
theorem q_distinct : P0.sp 10 = sp_never := rfl
theorem q_read_weights : P0.sp 11 = sp_never := rfl
theorem q_Reading_reference : P0.sp 12 = sp_never := rfl
theorem q_Reading_atom : P0.sp 13 = sp_never := rfl
theorem q_Reading_value : P0.sp 14 = sp_never := rfl
theorem q_read_target : P0.sp 15 = sp_never := rfl
theorem q_read_send : P0.sp 16 = sp_never := rfl
theorem q_read_method : P0.sp 17 = sp_never := rfl
theorem q_read_message : P0.sp 18 = sp_never := rfl
theorem q_read_message_content : P0.sp 19 = sp_never := rfl
theorem q_read_content : P0.sp 20 = sp_rcBreak 0 := rfl
theorem q_read_packet : P0.sp 21 = sp_rpBreak := rfl
theorem q_read_frame : P0.sp 22 = sp_rd_frame 1 := rfl
theorem q__law_read : P0.sp 23 = sp_lawread52 := rfl
theorem q__law_count : P0.sp 24 = sp_write_count := rfl
theorem q__law_draw : P0.sp 25 = sp__law_draw := rfl
theorem q_write_count : P0.sp 26 = sp_write_count := rfl
theorem q_write_reference : P0.sp 27 = sp_never := rfl
theorem q_write_text : P0.sp 28 = sp_write_text := rfl
theorem q_write_atom : P0.sp 29 = sp_never := rfl
theorem q_write_value : P0.sp 30 = sp_never := rfl
theorem q_write_weight : P0.sp 31 = sp_never := rfl
theorem q_write_weights : P0.sp 32 = sp_never := rfl
theorem q_write_send : P0.sp 33 = sp_never := rfl
theorem q_write_message : P0.sp 34 = sp_never := rfl
theorem q_write_target : P0.sp 35 = sp_never := rfl
theorem q_write_content : P0.sp 36 = sp_wcBreak := rfl
theorem q_write_packet : P0.sp 37 = sp_wpBreak := rfl
theorem q_write_acknowledgement : P0.sp 38 = sp_write_acknowledgement := rfl
theorem q__law_cell : P0.sp 39 = sp__law_cell := rfl
theorem q__law_digits : P0.sp 40 = sp__law_digits := rfl
theorem q_law : P0.sp 41 = sp_law := rfl
theorem qA : (P0.sp 0 = sp__law_same) ∧ (P0.sp 1 = sp_rd_digits 0 1) ∧ (P0.sp 2 = sp_rd_count 0 1) ∧ (P0.sp 3 = sp_rd_init 0) ∧ (P0.sp 4 = sp_never) ∧ (P0.sp 5 = sp_never) ∧ (P0.sp 6 = sp_rd_text1 0) ∧ (P0.sp 7 = sp_never) ∧ (P0.sp 8 = sp_never) ∧ (P0.sp 9 = sp_never) ∧ (P0.sp 10 = sp_never) ∧ (P0.sp 11 = sp_never) ∧ (P0.sp 12 = sp_never) ∧ (P0.sp 13 = sp_never) ∧ (P0.sp 14 = sp_never) ∧ (P0.sp 15 = sp_never) ∧ (P0.sp 16 = sp_never) ∧ (P0.sp 17 = sp_never) ∧ (P0.sp 18 = sp_never) ∧ (P0.sp 19 = sp_never) ∧ (P0.sp 20 = sp_rcBreak 0) ∧ (P0.sp 21 = sp_rpBreak) ∧ (P0.sp 22 = sp_rd_frame 1) ∧ (P0.sp 23 = sp_lawread52) ∧ (P0.sp 24 = sp_write_count) ∧ (P0.sp 25 = sp__law_draw) ∧ (P0.sp 26 = sp_write_count) ∧ (P0.sp 27 = sp_never) ∧ (P0.sp 28 = sp_write_text) ∧ (P0.sp 29 = sp_never) ∧ (P0.sp 30 = sp_never) ∧ (P0.sp 31 = sp_never) ∧ (P0.sp 32 = sp_never) ∧ (P0.sp 33 = sp_never) ∧ (P0.sp 34 = sp_never) ∧ (P0.sp 35 = sp_never) ∧ (P0.sp 36 = sp_wcBreak) ∧ (P0.sp 37 = sp_wpBreak) ∧ (P0.sp 38 = sp_write_acknowledgement) ∧ (P0.sp 39 = sp__law_cell) ∧ (P0.sp 40 = sp__law_digits) ∧ (P0.sp 41 = sp_law) := ⟨q__law_same, q_Reading_digits, q_Reading_count, q_Reading___init__, q_Reading_big, q_Reading_weight, q_Reading_text, q_atoms, q_is_reference, q_references, q_distinct, q_read_weights, q_Reading_reference, q_Reading_atom, q_Reading_value, q_read_target, q_read_send, q_read_method, q_read_message, q_read_message_content, q_read_content, q_read_packet, q_read_frame, q__law_read, q__law_count, q__law_draw, q_write_count, q_write_reference, q_write_text, q_write_atom, q_write_value, q_write_weight, q_write_weights, q_write_send, q_write_message, q_write_target, q_write_content, q_write_packet, q_write_acknowledgement, q__law_cell, q__law_digits, q_law⟩
end K52
end
section
set_option autoImplicit false
set_option pp.maxSteps 300
set_option linter.all false
set_option maxRecDepth 100000
set_option maxHeartbeats 4000000
namespace K52
open L3
open PySem (Addr Str PyData NestedKey)
theorem ok__law_same : Keeps P0 sp__law_same 2 b__law_same := by
  rintro ds M Q X ⟨d, e, p, rfl, h1, h2, ⟨h3, h4, h5⟩, q⟩
  show wpSs P0 b__law_same _ _ [some d, some e] M
  unfold b__law_same
  simp only [wpSs, wpS, wpE, wpEs, wpT, xat, L3.wA, D.isNon, D.cn, wipeL]
  refine ⟨p, h1, h3, h4, h5, p, h2, h3, h4, h5, ?_⟩
  exact wpEq_same (x := .str p.shown) (M := M) (k := fun r => Q (.bl r) M) (fun _ z => nomatch z) rfl q
end K52
end
section
set_option autoImplicit false
set_option pp.maxSteps 300
set_option linter.all false
set_option maxRecDepth 100000
set_option maxHeartbeats 4000000
namespace K52
open L3
open PySem (Addr Str PyData NestedKey)
theorem ok_Reading_digits : Keeps P0 (sp_rd_digits 0 1) 6 b_Reading_digits := by
  rintro ds M Q X ⟨r, a, ns, i, most, rfl, R, hm, q⟩
  have f1 : P0.fl 0 "numbers" = true := by decide +kernel
  have f2 : P0.fl 0 "at" = true := by decide +kernel
  have hx : P0.exf 1 = [("place" : Str)] := rfl
  show wpSs P0 b_Reading_digits _ _ [some (.ref r), some (.int most), none, none, none, none] M
  unfold b_Reading_digits
  simp only [wpSs, wpS, wpE, wpEs, wpT, xat, L3.wA, D.isNon, D.cn, wipeL]
  refine ⟨sm0 (by omega) (by omega), forL_inv (fun k σ M' => ∃ (i : Nat) (total unit : Int) (a4 a5 : Option D), σ = [some (.ref r), some (.int most), some (.int total), some (.int unit), a4, a5] ∧ RdAt 0 M' r a ns i ∧ Fr (At r) M M' ∧
    rdSp 0 1 r a ns M' ((digL ns most (most + 1 - k) k i total unit).map .int) Q X) ⟨i, 0, 1, none, none, rfl, R, Fr.refl, q⟩ ?_ ?_⟩
  · rintro k x σ M' nx hx' ⟨i, total, unit, a4, a5, rfl, R, f, q⟩ hnx
    obtain ⟨hk, rfl⟩ := dRange_get' hx'
    have hk : k < most + 1 := by omega
    refine ⟨trivial, ?_⟩
    unfold b_Reading_digits_0
    have hn := R.n
    have hi := R.i
    simp only [wpSs, wpS, wpE, wpEs, wpT, xat, L3.wA, D.isNon, D.cn, wipeL]
    refine (w_fld R.r).mpr ⟨f2, _, rd_at, (w_fld R.r).mpr ⟨f1, _, rd_num, (w_lenL R.a).mpr ?_⟩⟩
    obtain ⟨n, en⟩ : ∃ n, most + 1 - k = n + 1 := ⟨most - k, by omega⟩
    have en2 : most + 1 - (k + 1) = n := by omega
    rw [en] at q
    unfold digL at q
    simp only [wpSs, wpS, wpE, wpEs, wpT, xat, L3.wA, D.isNon, D.cn, wipeL, List.length_map]
    cases e : ns[i]? with
    | none =>
      rw [e] at q
      have hle := List.getElem?_eq_none_iff.mp e
      rw [if_pos (by omega)]
      refine (w_fld R.r).mpr ⟨f1, _, rd_num, (w_lenL R.a).mpr ?_⟩
      rw [List.length_map]
      exact raise_mf hx (by omega) (q M' Fr.refl R)
    | some d =>
      rw [e] at q
      have hlt : i < ns.length := (List.getElem?_eq_some_iff.mp e).1
      have ed : ns[i] = d := (List.getElem?_eq_some_iff.mp e).2
      rw [if_neg (by omega)]
      refine (w_fld R.r).mpr ⟨f1, _, rd_num, (w_fld R.r).mpr ⟨f2, _, rd_at, (w_ixL R.a).mpr ⟨.int d, by rw [← ed]; exact atD_ints hlt, ?_⟩⟩⟩
      simp only [wpSs, wpS, wpE, wpEs, wpT, xat, L3.wA, D.isNon, D.cn, wipeL]
      simp only at q
      by_cases C : k = most ∨ d < 0 ∨ 255 < d ∨ (d = 0 ∧ 0 < k)
      · rw [if_pos C] at q
        have br : wpFld P0 (D.ref r) "at" M' fun d M1 => ([d].length = (P0.exf 1).length ∧ ∀ e ∈ [d], e.fmt) ∧ X (D.exn 1 (exnF (P0.exf 1) [d])) M1 := (w_fld R.r).mpr ⟨f2, _, rd_at, raise_mf hx (by omega) (q M' Fr.refl R)⟩
        repeat' (first | exact br | (exfalso; omega) | split)
      · rw [if_neg C] at q
        have d0 : 0 ≤ d ∧ d ≤ 255 := by omega
        have R2 := R.put (k := i + 1) (by omega)
        have f' : Fr (At r) M' (mset M' r (.ins 0 (rdO a (i + 1)))) := Fr.set rfl
        have ct : wpFld P0 (D.ref r) "at" M' fun v M1 => wpInp BOp.add v (D.int 1) M1 fun z M3 => wpSetFld P0 (D.ref r) "at" z M3 fun M1 =>
            if d < 128 then MulOk unit d ∧ Q (D.int (total + unit * d)) (id M1) else MulOk unit (d - 128) ∧ MulOk unit 128 ∧ nx [some (D.ref r), some (D.int most), some (D.int (total + unit * (d - 128))), some (D.int (unit * 128)), some (D.int (0 + k)), some (D.int d)] M1 := by
          refine (w_fld R.r).mpr ⟨f2, _, rd_at, ?_⟩
          simp only [wpSs, wpS, wpE, wpEs, wpT, xat, L3.wA, D.isNon, D.cn, wipeL]
          refine (w_setFld R.r).mpr ⟨⟨f2, by show 2 < 900; decide⟩, ?_⟩
          rw [rd_put (k := i + 1) (by omega)]
          by_cases h : d < 128
          · rw [if_pos h] at q ⊢
            exact ⟨mulK ⟨by omega, by omega⟩, q _ f' R2⟩
          · rw [if_neg h] at q ⊢
            refine ⟨mulK ⟨by omega, by omega⟩, mulK ⟨by decide, by decide⟩, hnx _ _ ⟨i + 1, _, _, _, _, rfl, R2, f.trans f', ?_⟩⟩
            rw [en2]
            exact q.on f'
        repeat' (first | exact ct | (exfalso; omega) | split)
  · rintro σ M' ⟨i, total, unit, a4, a5, rfl, R, f, q⟩
    refine ⟨trivial, ?_⟩
    simp only [wpSs, wpS, wpE, wpEs, wpT, xat, L3.wA, D.isNon, D.cn, wipeL]
    rw [dRange_len] at q
    have e : most + 1 - ((most : Int) + 1 - 0).toNat = 0 := by omega
    rw [e] at q
    exact q M' Fr.refl R
end K52
end
section
set_option autoImplicit false
set_option pp.maxSteps 300
set_option linter.all false
set_option maxRecDepth 100000
set_option maxHeartbeats 4000000
namespace K52
open L3
open PySem (Addr Str PyData NestedKey)
theorem ok_Reading_count : Keeps P0 (sp_rd_count 0 1) 4 b_Reading_count := by
  rintro ds M Q X ⟨r, a, ns, i, least, most, rfl, R, q⟩
  have f2 : P0.fl 0 "at" = true := by decide +kernel
  have hx : P0.exf 1 = [("place" : Str)] := rfl
  show wpSs P0 b_Reading_count _ _ [some (.ref r), some (.int least), some (.int most), none] M
  unfold b_Reading_count
  simp only [wpSs, wpS, wpE, wpEs, wpT, xat, L3.wA, D.isNon, D.cn, wipeL, qA]
  have hn := R.n
  refine ⟨R.m n_digits, r, a, ns, i, 5, rfl, R, by decide, ?_⟩
  unfold cntF at q
  cases e : digF ns 5 i with
  | er p j =>
    rw [e] at q
    exact fun M' f R' => q M' f R'
  | ok v j =>
    rw [e] at q
    intro M' f R'
    have hj := R'.i
    have q : rdSp _ _ r a ns M (Rs.map D.int (if v < least ∨ most < v then .er ((j : Int) - 1) j else .ok v j)) Q X := q
    simp only [wpSs, wpS, wpE, wpEs, wpT, xat, L3.wA, D.isNon, D.cn, wipeL]
    by_cases C : v < least ∨ most < v
    · rw [if_pos C] at q
      have br : wpFld P0 (D.ref r) "at" M' fun d M1 => wpBin BOp.sub d (D.int 1) M1 fun d M1 => ([d].length = (P0.exf 1).length ∧ ∀ e ∈ [d], e.fmt) ∧ X (D.exn 1 (exnF (P0.exf 1) [d])) M1 := (w_fld R'.r).mpr ⟨f2, _, rd_at, raise_mf hx (by omega) (q M' f R')⟩
      repeat' (first | exact br | (exfalso; omega) | split)
    · rw [if_neg C] at q
      repeat' (first | exact q M' f R' | (exfalso; omega) | split)
end K52
end
section
set_option autoImplicit false
set_option pp.maxSteps 300
set_option linter.all false
set_option maxRecDepth 100000
set_option maxHeartbeats 4000000
namespace K52
open L3
open PySem (Addr Str PyData NestedKey)
theorem ok_Reading___init__ : Keeps P0 (sp_rd_init 0) 2 b_Reading___init__ := by
  rintro ds M Q X ⟨r, a, rfl, hr, q⟩
  have f1 : P0.fl 0 "numbers" = true := by decide +kernel
  have f2 : P0.fl 0 "at" = true := by decide +kernel
  show wpSs P0 b_Reading___init__ _ _ [some (.ref r), some (.ref a)] M
  unfold b_Reading___init__
  simp only [wpSs, wpS, wpE, wpEs, wpT, xat, L3.wA, D.isNon, D.cn, wipeL]
  refine (w_setFld hr).mpr ⟨⟨f1, by decide⟩, ?_⟩
  refine (w_setFld (c := 0) (fs := [("numbers", .ref a)]) mset_same).mpr ⟨⟨f2, by show 1 < 900; decide⟩, ?_⟩
  rw [mset_mset]
  have e : putFd "at" (.int 0) [(("numbers" : Str), D.ref a)] = rdO a 0 := by
    unfold putFd putFd rdO
    rw [if_neg (by decide +kernel)]
    rfl
  rw [e]
  exact q
end K52
end
section
set_option autoImplicit false
set_option pp.maxSteps 300
set_option linter.all false
set_option maxRecDepth 100000
set_option maxHeartbeats 4000000
namespace K52
open L3
open PySem (Addr Str PyData NestedKey)
theorem ok_Reading_big : Keeps P0 sp_never 1 b_Reading_big := fun _ _ _ _ h => h.elim
end K52
end
section
set_option autoImplicit false
set_option pp.maxSteps 300
set_option linter.all false
set_option maxRecDepth 100000
set_option maxHeartbeats 4000000
namespace K52
open L3
open PySem (Addr Str PyData NestedKey)
theorem ok_Reading_weight : Keeps P0 sp_never 3 b_Reading_weight := fun _ _ _ _ h => h.elim
end K52
end
section
set_option autoImplicit false
set_option pp.maxSteps 300
set_option linter.all false
set_option maxRecDepth 100000
set_option maxHeartbeats 4000000
namespace K52
open L3
open PySem (Addr Str PyData NestedKey)
theorem ok_Reading_text : Keeps P0 (sp_rd_text1 0) 4 b_Reading_text := by
  rintro ds M Q X ⟨r, a, ns, i, most, ixs, post, rfl, R, hd, ht, hl, hm, q⟩
  show wpSs P0 b_Reading_text _ _ [some (.ref r), some (.int most), none, none] M
  have hch : (" !\"#$&'()*+,-./0123456789:;<=>?@ABCDEFGHIJKLMNOPQRSTUVWXYZ[\\]^_`abcdefghijklmnopqrstuvwxyz{|}~" : Str) = chS := rfl
  unfold b_Reading_text
  rw [hch]
  simp only [wpSs, wpS, wpE, wpEs, wpT, xat, L3.wA, D.isNon, D.cn, wipeL, qA, ch_len]
  have hd0 : ns.drop i = wcF ixs.length ++ (ixs.map (fun (k : Nat) => (k : Int)) ++ post) := by rw [hd]; unfold wtF; rw [List.append_assoc]
  have w1 : (wcF ixs.length).length ≤ 2 := wcF_len (k := 1) (by omega)
  refine ⟨R.m n_count, r, a, ns, i, 0, most, rfl, R, ?_⟩
  rw [cntF_wc hd0 (by omega) (by omega) (by omega)]
  intro M1 f1 R1
  simp only [wpSs, wpS, wpE, wpEs, wpT, xat, L3.wA, D.isNon, D.cn, wipeL, qA]
  refine ⟨rfl, sm0 (by omega) (by omega), ?_⟩
  have hd1 : ns.drop (i + (wcF ixs.length).length) = ixs.map (fun (k : Nat) => (k : Int)) ++ post := by rw [← List.drop_drop, hd0, List.drop_left]
  refine compL_inv (fun j acc M' => RdAt 0 M' r a ns (i + (wcF ixs.length).length + j) ∧ Fr (At r) M M' ∧ acc = ((ixs.take j).map fun k => (⟨#[chS.cps.getD k 0]⟩ : Str)).map D.str) ⟨R1, f1, rfl⟩ (by rw [dRange_len]; exact sl_small _ (by omega)) ?_ ?_
  · rintro j x acc M2 kk hx ⟨R2, f2, rfl⟩ hkk
    obtain ⟨hj, rfl⟩ := dRange_get' hx
    have hj : j < ixs.length := by omega
    refine ⟨trivial, R2.m n_count, sl_small _ (by decide), r, a, ns, _, 0, _, rfl, R2, ?_⟩
    have hk94 := ht ixs[j] (List.getElem_mem hj)
    have hd2 : ns.drop (i + (wcF ixs.length).length + j) = wcF ixs[j] ++ ((ixs.drop (j + 1)).map (fun (k : Nat) => (k : Int)) ++ post) := by
      rw [← List.drop_drop, hd1, wcF_small (by omega), List.drop_append_of_le_length (by rw [List.length_map]; omega), ← List.map_drop, List.drop_eq_getElem_cons hj]
      rfl
    rw [cntF_wc hd2 (by omega) (by omega) (by omega)]
    intro M3 f3 R3
    rw [wcF_small (n := ixs[j]) (by omega)] at R3
    refine ⟨_, by rw [ch_len]; exact sl_small _ (by decide), ch_at hk94, ?_⟩
    refine hkk _ _ ⟨R3, f2.trans f3, ?_⟩
    rw [List.take_succ, List.getElem?_eq_getElem hj, Option.toList_some, List.map_append, List.map_append]
    rfl
  · rintro acc M2 ⟨R2, f2, rfl⟩
    rw [dRange_len, show ((ixs.length : Int) - 0).toNat = ixs.length by omega] at R2
    rw [dRange_len, show ((ixs.length : Int) - 0).toNat = ixs.length by omega, List.take_length]
    refine ⟨trivial, fun p hp => ⟨rfl, ?_⟩⟩
    have e : mset (id M2) p (.lst ((ixs.map fun k => (⟨#[chS.cps.getD k 0]⟩ : Str)).map D.str)) p = some (.lst ((ixs.map fun k => (⟨#[chS.cps.getD k 0]⟩ : Str)).map D.str)) := mset_same
    show match mset (id M2) p _ p with
      | some (.lst ds) => _
      | _ => False
    rw [e]
    refine ⟨_, allS_map _, ?_, ?_⟩
    · have e1 : ((ixs.map fun k => (⟨#[chS.cps.getD k 0]⟩ : Str)).map fun z => z.length) = ixs.map fun _ => 1 := by
        rw [List.map_map]
        rfl
      have e2 : ∀ l : List Nat, (l.map fun _ => 1).sum = l.length := fun l => by
        induction l with
        | nil => rfl
        | cons a l ih => rw [List.map_cons, List.sum_cons, ih, List.length_cons]; omega
      have e3 : (("" : Str)).length = 0 := rfl
      rw [e1, e2, List.length_map, e3]
      omega
    · rw [join_ch]
      have f4 : Fr No M2 (mset (id M2) p (.lst ((ixs.map fun k => (⟨#[chS.cps.getD k 0]⟩ : Str)).map D.str))) := Fr.new hp
      refine q _ (f2.trans f4.any) ?_
      have e4 : (wtF ixs).length = (wcF ixs.length).length + ixs.length := by unfold wtF; rw [List.length_append, List.length_map]
      rw [e4, ← Nat.add_assoc]
      exact R2.fr f4
end K52
end
section
set_option autoImplicit false
set_option pp.maxSteps 300
set_option linter.all false
set_option maxRecDepth 100000
set_option maxHeartbeats 4000000
namespace K52
open L3
open PySem (Addr Str PyData NestedKey)
theorem ok_atoms : Keeps P0 sp_never 1 b_atoms := fun _ _ _ _ h => h.elim
end K52
end
section
set_option autoImplicit false
set_option pp.maxSteps 300
set_option linter.all false
set_option maxRecDepth 100000
set_option maxHeartbeats 4000000
namespace K52
open L3
open PySem (Addr Str PyData NestedKey)
theorem ok_is_reference : Keeps P0 sp_never 1 b_is_reference := fun _ _ _ _ h => h.elim
end K52
end
section
set_option autoImplicit false
set_option pp.maxSteps 300
set_option linter.all false
set_option maxRecDepth 100000
set_option maxHeartbeats 4000000
namespace K52
open L3
open PySem (Addr Str PyData NestedKey)
theorem ok_references : Keeps P0 sp_never 2 b_references := fun _ _ _ _ h => h.elim
end K52
end
section
set_option autoImplicit false
set_option pp.maxSteps 300
set_option linter.all false
set_option maxRecDepth 100000
set_option maxHeartbeats 4000000
namespace K52
open L3
open PySem (Addr Str PyData NestedKey)
theorem ok_distinct : Keeps P0 sp_never 4 b_distinct := fun _ _ _ _ h => h.elim
end K52
end
section
set_option autoImplicit false
set_option pp.maxSteps 300
set_option linter.all false
set_option maxRecDepth 100000
set_option maxHeartbeats 4000000
namespace K52
open L3
open PySem (Addr Str PyData NestedKey)
theorem ok_read_weights : Keeps P0 sp_never 4 b_read_weights := fun _ _ _ _ h => h.elim
end K52
end
section
set_option autoImplicit false
set_option pp.maxSteps 300
set_option linter.all false
set_option maxRecDepth 100000
set_option maxHeartbeats 4000000
namespace K52
open L3
open PySem (Addr Str PyData NestedKey)
theorem ok_Reading_reference : Keeps P0 sp_never 3 b_Reading_reference := fun _ _ _ _ h => h.elim
end K52
end
section
set_option autoImplicit false
set_option pp.maxSteps 300
set_option linter.all false
set_option maxRecDepth 100000
set_option maxHeartbeats 4000000
namespace K52
open L3
open PySem (Addr Str PyData NestedKey)
theorem ok_Reading_atom : Keeps P0 sp_never 3 b_Reading_atom := fun _ _ _ _ h => h.elim
end K52
end
section
set_option autoImplicit false
set_option pp.maxSteps 300
set_option linter.all false
set_option maxRecDepth 100000
set_option maxHeartbeats 4000000
namespace K52
open L3
open PySem (Addr Str PyData NestedKey)
theorem ok_Reading_value : Keeps P0 sp_never 3 b_Reading_value := fun _ _ _ _ h => h.elim
end K52
end
section
set_option autoImplicit false
set_option pp.maxSteps 300
set_option linter.all false
set_option maxRecDepth 100000
set_option maxHeartbeats 4000000
namespace K52
open L3
open PySem (Addr Str PyData NestedKey)
theorem ok_read_target : Keeps P0 sp_never 3 b_read_target := fun _ _ _ _ h => h.elim
end K52
end
section
set_option autoImplicit false
set_option pp.maxSteps 300
set_option linter.all false
set_option maxRecDepth 100000
set_option maxHeartbeats 4000000
namespace K52
open L3
open PySem (Addr Str PyData NestedKey)
theorem ok_read_send : Keeps P0 sp_never 2 b_read_send := fun _ _ _ _ h => h.elim
end K52
end
section
set_option autoImplicit false
set_option pp.maxSteps 300
set_option linter.all false
set_option maxRecDepth 100000
set_option maxHeartbeats 4000000
namespace K52
open L3
open PySem (Addr Str PyData NestedKey)
theorem ok_read_method : Keeps P0 sp_never 4 b_read_method := fun _ _ _ _ h => h.elim
end K52
end
section
set_option autoImplicit false
set_option pp.maxSteps 300
set_option linter.all false
set_option maxRecDepth 100000
set_option maxHeartbeats 4000000
namespace K52
open L3
open PySem (Addr Str PyData NestedKey)
theorem ok_read_message : Keeps P0 sp_never 8 b_read_message := fun _ _ _ _ h => h.elim
end K52
end
section
set_option autoImplicit false
set_option pp.maxSteps 300
set_option linter.all false
set_option maxRecDepth 100000
set_option maxHeartbeats 4000000
namespace K52
open L3
open PySem (Addr Str PyData NestedKey)
theorem ok_read_message_content : Keeps P0 sp_never 5 b_read_message_content := fun _ _ _ _ h => h.elim
end K52
end
section
set_option autoImplicit false
set_option pp.maxSteps 300
set_option linter.all false
set_option maxRecDepth 100000
set_option maxHeartbeats 4000000
namespace K52
open L3
open PySem (Addr Str PyData NestedKey)
theorem ok_read_content : Keeps P0 (sp_rcBreak 0) 5 b_read_content := by
  rintro ds M Q X ⟨r, a, ns, i, m, ixs, post, rfl, R, hd, hm, ht, hl, q⟩
  show wpSs P0 b_read_content _ _ [some (.ref r), some (.str "break"), none, none, none] M
  unfold b_read_content
  simp only [wpSs, wpS, wpE, wpEs, wpT, xat, L3.wA, D.isNon, D.cn, wipeL, qA]
  have e1 : (("break" : Str) = "message") = False := eq_false (by decide +kernel)
  have e2 : (("break" : Str) = "release") = False := eq_false (by decide +kernel)
  have e3 : (("break" : Str) = "transfer") = False := eq_false (by decide +kernel)
  simp only [e1, e2, e3, if_false]
  refine ⟨R.m n_count, r, a, ns, i, 1, 1000000000, rfl, R, ?_⟩
  rw [cntF_wc hd (by omega) (by omega) (by omega)]
  intro M1 f1 R1
  have g1 : (("fulfill" : Str) = "break") = False := eq_false (by decide +kernel)
  have g2 : (("resolved" : Str) = "break") = False := eq_false (by decide +kernel)
  have hd2 : ns.drop (i + (wcF m).length) = wtF ixs ++ post := by rw [← List.drop_drop, hd, List.drop_left]
  refine ⟨sl_small _ (by simp), ?_⟩
  rw [w_inTup]
  refine ⟨⟨rfl, fun d hd => by
    rcases List.mem_cons.mp hd with rfl | hd
    · rfl
    · rw [List.mem_singleton] at hd; subst hd; rfl⟩, ?_⟩
  simp only [List.any_cons, List.any_nil, eqv_str, g1, g2, decide_false, Bool.or_self, Bool.false_eq_true, if_false]
  refine ⟨sl_small _ (by simp), ?_⟩
  rw [w_inTup]
  refine ⟨⟨rfl, fun d hd => by
    rcases List.mem_cons.mp hd with rfl | hd
    · rfl
    · rw [List.mem_singleton] at hd; subst hd; rfl⟩, ?_⟩
  simp only [List.any_cons, List.any_nil, eqv_str, decide_true, Bool.true_or, if_true]
  refine ⟨R1.m n_text, r, a, ns, _, 20, ixs, post, rfl, R1, hd2, ht, by omega, by decide, fun M2 f2 R2 => ⟨sl_small _ (by simp), q M2 (f1.trans f2) R2⟩⟩
end K52
end
section
set_option autoImplicit false
set_option pp.maxSteps 300
set_option linter.all false
set_option maxRecDepth 100000
set_option maxHeartbeats 4000000
namespace K52
open L3
open PySem (Addr Str PyData NestedKey)
theorem ok_read_packet : Keeps P0 sp_rpBreak 6 b_read_packet := by
  rintro ds M Q X ⟨a, s, r, n, m, ixs, rfl, ha, B, q⟩
  show wpSs P0 b_read_packet _ _ [some (.ref a), none, none, none, none, none] M
  unfold b_read_packet
  simp only [wpSs, wpS, wpE, wpEs, wpT, xat, L3.wA, D.isNon, D.cn, wipeL, qA]
  have hpk : pkF s r n m ixs = wcF 1 ++ (wcF s ++ (wcF r ++ (wcF n ++ (wcF 2 ++ (wcF m ++ (wtF ixs ++ [])))))) := by
    rw [wcF_small (n := 1) (by decide), wcF_small (n := 2) (by decide)]
    unfold pkF
    simp [List.append_assoc]
  have ls : (wcF s).length ≤ 1 := wcF_len (k := 0) (by have := B.s; omega)
  have lr : (wcF r).length ≤ 1 := wcF_len (k := 0) (by have := B.r; omega)
  have ln : (wcF n).length ≤ 5 := wcF_len (k := 4) (by have := B.n; omega)
  have lm : (wcF m).length ≤ 5 := wcF_len (k := 4) (by have := B.m; omega)
  have ll : (wcF ixs.length).length ≤ 1 := wcF_len (k := 0) (by have := B.l; omega)
  have lt : (wtF ixs).length ≤ 21 := by unfold wtF; rw [List.length_append, List.length_map]; have := B.l; omega
  have l1 : (wcF 1).length = 1 := by rw [wcF_small (by decide)]; rfl
  have l2 : (wcF 2).length = 1 := by rw [wcF_small (by decide)]; rfl
  generalize hns : pkF s r n m ixs = ns at ha
  rw [hns] at hpk
  have hlen : ns.length = 1 + ((wcF s).length + ((wcF r).length + ((wcF n).length + (1 + ((wcF m).length + (wtF ixs).length))))) := by
    rw [hpk]
    simp only [List.length_append, l1, l2, List.length_nil]
    omega
  intro p hp
  refine ⟨p, a, rfl, mset_same, rfl, ?_⟩
  have R0 : RdAt 0 _ p a ns 0 := RdAt.new hp ha (by omega)
  have f0 : Fr No M (mset (mset M p (.ins 0 [])) p (.ins 0 (rdO a 0))) := Fr.hide1 hp ((Fr.set (O := At p) rfl).trans (Fr.set (O := At p) rfl))
  revert R0 f0
  generalize mset (mset M p (.ins 0 [])) p (.ins 0 (rdO a 0)) = M0
  intro R0 f0
  have d0 : ns.drop 0 = wcF 1 ++ (wcF s ++ (wcF r ++ (wcF n ++ (wcF 2 ++ (wcF m ++ (wtF ixs ++ [])))))) := hpk
  refine ⟨R0.m n_count, p, a, ns, 0, 1, 1, rfl, R0, ?_⟩
  rw [cntF_wc d0 (by decide) (by decide) (by decide)]
  intro M1 f1 R1
  have d1 : ns.drop (0 + (wcF 1).length) = wcF s ++ (wcF r ++ (wcF n ++ (wcF 2 ++ (wcF m ++ (wtF ixs ++ []))))) := by rw [← List.drop_drop, d0, List.drop_left]
  refine ⟨R1.m n_count, p, a, ns, _, 1, 9, rfl, R1, ?_⟩
  rw [cntF_wc d1 (by have := B.s; omega) (by have := B.s; omega) (by have := B.s; omega)]
  intro M2 f2 R2
  have d2 : ns.drop (0 + (wcF 1).length + (wcF s).length) = wcF r ++ (wcF n ++ (wcF 2 ++ (wcF m ++ (wtF ixs ++ [])))) := by rw [← List.drop_drop, d1, List.drop_left]
  refine ⟨R2.m n_count, p, a, ns, _, 1, 9, rfl, R2, ?_⟩
  rw [cntF_wc d2 (by have := B.r; omega) (by have := B.r; omega) (by have := B.r; omega)]
  intro M3 f3 R3
  have d3 : ns.drop (0 + (wcF 1).length + (wcF s).length + (wcF r).length) = wcF n ++ (wcF 2 ++ (wcF m ++ (wtF ixs ++ []))) := by rw [← List.drop_drop, d2, List.drop_left]
  refine ⟨R3.m n_count, p, a, ns, _, 1, 1000000000, rfl, R3, ?_⟩
  rw [cntF_wc d3 (by have := B.n; omega) (by have := B.n; omega) (by have := B.n; omega)]
  intro M4 f4 R4
  have d4 : ns.drop (0 + (wcF 1).length + (wcF s).length + (wcF r).length + (wcF n).length) = wcF 2 ++ (wcF m ++ (wtF ixs ++ [])) := by rw [← List.drop_drop, d3, List.drop_left]
  refine ⟨R4.m n_count, p, a, ns, _, 0, _, rfl, R4, ?_⟩
  rw [cntF_wc d4 (by decide) (by decide) (by decide)]
  intro M5 f5 R5
  have d5 : ns.drop (0 + (wcF 1).length + (wcF s).length + (wcF r).length + (wcF n).length + (wcF 2).length) = wcF m ++ (wtF ixs ++ []) := by rw [← List.drop_drop, d4, List.drop_left]
  refine ⟨.str "break", rfl, ?_⟩
  refine ⟨p, a, ns, _, m, ixs, [], rfl, R5, d5, B.m, B.t, B.l, fun M6 f6 R6 => ?_⟩
  have f1' : Fr (At p) M0 M6 := ((((f1.trans f2).trans f3).trans f4).trans f5).trans f6
  have fA : Fr No M M6 := Fr.hide1 hp (f0.any.trans f1')
  have g2 : P0.fl 0 "at" = true := by decide +kernel
  show wpFld P0 (D.ref p) "at" M6 _
  refine (w_fld R6.r).mpr ⟨g2, _, rd_at, (w_lenL R6.a).mpr ?_⟩
  simp only [wpSs, wpS, wpE, wpEs, wpT, xat, L3.wA, D.isNon, D.cn, wipeL, List.length_map]
  rw [if_neg (by rw [l1, l2, decide_eq_true (by omega)]; decide)]
  exact ⟨sl_small _ (by simp), q M6 fA⟩
end K52
end
section
set_option autoImplicit false
set_option pp.maxSteps 300
set_option linter.all false
set_option maxRecDepth 100000
set_option maxHeartbeats 4000000
namespace K52
open L3
open PySem (Addr Str PyData NestedKey)
theorem ok_read_frame : Keeps P0 (sp_rd_frame 1) 5 b_read_frame := by
  rintro ds M Q X ⟨a, ns, rfl, ha, hn, h⟩
  have hx : P0.exf 1 = [("place" : Str)] := rfl
  show wpSs P0 b_read_frame _ _ [some (.ref a), none, none, none, none] M
  unfold b_read_frame
  simp only [wpSs, wpS, wpE, wpEs, wpT, xat, L3.wA, D.isNon, D.cn, wipeL, qA]
  have g2 : P0.fl 0 "at" = true := by decide +kernel
  refine (w_lenL ha).mpr ?_
  simp only [wpSs, wpS, wpE, wpEs, wpT, xat, L3.wA, D.isNon, D.cn, wipeL, List.length_map]
  by_cases h0 : ns.length = 0
  · rw [if_pos (by omega)]
    rcases h with ⟨h1, h2⟩ | ⟨s, r, n, m, ixs, rfl, B, h2⟩
    · have e : ns = [] := List.eq_nil_of_length_eq_zero h0
      subst e
      exact raise_mf hx (by decide) (h2 M Fr.refl)
    · unfold pkF at h0
      simp at h0
  · rw [if_neg (by omega)]
    obtain ⟨x, l, rfl⟩ : ∃ x l, ns = x :: l := by
      cases ns with
      | nil => exact absurd rfl h0
      | cons x l => exact ⟨x, l, rfl⟩
    have g0 : atD ((x :: l).map D.int) 0 = some (.int x) := rfl
    refine (w_ixL ha).mpr ⟨.int x, g0, sl_small _ (by simp), ?_⟩
    rw [w_inTup]
    refine ⟨⟨rfl, fun d hd => by
      rcases List.mem_cons.mp hd with rfl | hd
      · rfl
      · rw [List.mem_singleton] at hd; subst hd; rfl⟩, ?_⟩
    simp only [List.any_cons, List.any_nil, eqv_int, Bool.or_false]
    by_cases c1 : x = 1
    · subst c1
      rcases h with ⟨h1, h2⟩ | ⟨s, r, n, m, ixs, hp, B, h2⟩
      · exact absurd rfl h1
      · rw [if_neg (by simp)]
        refine (w_ixL ha).mpr ⟨.int 1, g0, ?_⟩
        simp only [wpSs, wpS, wpE, wpEs, wpT, xat, L3.wA, D.isNon, D.cn, wipeL]
        rw [hp] at ha
        exact ⟨a, s, r, n, m, ixs, rfl, ha, B, fun M' f => ⟨sl_small _ (by simp), h2 M' f⟩⟩
    · rcases h with ⟨h1, h2⟩ | ⟨s, r, n, m, ixs, hp, B, h2⟩
      rotate_left
      · unfold pkF at hp
        exact absurd (List.cons.inj hp).1 c1
      by_cases c2 : x = 2
      · subst c2
        rw [if_neg (by simp)]
        refine (w_ixL ha).mpr ⟨.int 2, g0, ?_⟩
        simp only [wpSs, wpS, wpE, wpEs, wpT, xat, L3.wA, D.isNon, D.cn, wipeL]
        rw [if_neg (by simp)]
        unfold frA at h2
        rw [if_pos (show ((2 : Int) :: l).head? = some 2 from rfl)] at h2
        generalize hns : (2 : Int) :: l = ns at ha hn h2 h0 g0
        intro p hp
        refine ⟨p, a, rfl, mset_same, rfl, ?_⟩
        have R0 : RdAt 0 _ p a ns 0 := RdAt.new hp ha hn
        have f0 : Fr No M (mset (mset M p (.ins 0 [])) p (.ins 0 (rdO a 0))) := Fr.hide1 hp ((Fr.set (O := At p) rfl).trans (Fr.set (O := At p) rfl))
        revert R0 f0
        generalize mset (mset M p (.ins 0 [])) p (.ins 0 (rdO a 0)) = M0
        intro R0 f0
        refine ⟨R0.m n_count, p, a, ns, 0, 2, 2, rfl, R0, ?_⟩
        cases e1 : cntF ns 2 2 0 with
        | er q1 j1 =>
          rw [e1] at h2
          intro M' f' R'
          exact h2 M' (Fr.hide1 hp (f0.any.trans f'))
        | ok v1 j1 =>
        rw [e1] at h2
        dsimp only [Rs.bind] at h2
        intro M1 f1 R1
        refine ⟨R1.m n_count, p, a, ns, j1, 1, 9, rfl, R1, ?_⟩
        cases e2 : cntF ns 1 9 j1 with
        | er q2 j2 =>
          rw [e2] at h2
          intro M' f' R'
          exact h2 M' (Fr.hide1 hp ((f0.any.trans f1).trans f'))
        | ok v2 j2 =>
        rw [e2] at h2
        dsimp only [Rs.bind] at h2
        intro M2 f2 R2
        refine ⟨R2.m n_count, p, a, ns, j2, 1, 9, rfl, R2, ?_⟩
        cases e3 : cntF ns 1 9 j2 with
        | er q3 j3 =>
          rw [e3] at h2
          intro M' f' R'
          exact h2 M' (Fr.hide1 hp (((f0.any.trans f1).trans f2).trans f'))
        | ok v3 j3 =>
        rw [e3] at h2
        dsimp only [Rs.bind] at h2
        intro M3 f3 R3
        refine ⟨R3.m n_count, p, a, ns, j3, 0, 1000000000, rfl, R3, ?_⟩
        cases e4 : cntF ns 0 1000000000 j3 with
        | er q4 j4 =>
          rw [e4] at h2
          intro M' f' R'
          exact h2 M' (Fr.hide1 hp ((((f0.any.trans f1).trans f2).trans f3).trans f'))
        | ok v4 j4 =>
        rw [e4] at h2
        dsimp only [Rs.bind] at h2
        intro M4 f4 R4
        have fA : Fr No M M4 := Fr.hide1 hp ((((f0.any.trans f1).trans f2).trans f3).trans f4)
        show wpFld P0 (D.ref p) "at" M4 _
        refine (w_fld R4.r).mpr ⟨g2, _, rd_at, (w_lenL R4.a).mpr ?_⟩
        simp only [wpSs, wpS, wpE, wpEs, wpT, xat, L3.wA, D.isNon, D.cn, wipeL, List.length_map]
        by_cases ce : j4 = ns.length
        · rw [if_pos ce] at h2
          rw [if_neg (by rw [decide_eq_true (by omega)]; decide)]
          exact ⟨sl_small _ (by simp), h2 M4 fA⟩
        · rw [if_neg ce] at h2
          rw [if_pos (by rw [decide_eq_false (by omega)]; rfl)]
          refine (w_fld R4.r).mpr ⟨g2, _, rd_at, raise_mf hx (by have := R4.i; omega) (h2 M4 fA)⟩
      · rw [if_pos (by simp; omega)]
        unfold frA at h2
        rw [if_neg (by simpa using c2)] at h2
        exact raise_mf hx (by decide) (h2 M Fr.refl)
end K52
end
section
set_option autoImplicit false
set_option pp.maxSteps 300
set_option linter.all false
set_option maxRecDepth 100000
set_option maxHeartbeats 4000000
namespace K52
open L3
open PySem (Addr Str PyData NestedKey)
theorem ok__law_read : Keeps P0 sp_lawread52 2 b__law_read := by
  rintro ds M Q X ⟨a, ns, d, rfl, ha, hn, h, q⟩
  show wpSs P0 b__law_read _ _ [some (.ref a), none] M
  unfold b__law_read b__law_read_0
  simp only [wpSs, wpS, wpE, wpEs, wpT, xat, L3.wA, D.isNon, D.cn, wipeL, qA]
  have s1 : P0.sub 1 2 = some true := rfl
  have s2 : P0.isx 1 (.own 1) = some true := rfl
  have hx : (P0.exf 1).contains ("place" : Str) = true := by decide +kernel
  have raised : ∀ (p : Int) (M' : Mp) (D : Ends) (σ : Lo), D.rt (.tup [.str "malformed", .int p]) M' → wpHs P0 1 [.tup [.str "place", .int p]] (HSs.cons (HS.ite (HE.inst (HK.own 1)) (HSs.cons (HS.ret (HE.tup (HEs.cons (HE.str "malformed") (HEs.cons (HE.fld "place") HEs.nil)))) HSs.nil) HSs.nil)
      (HSs.cons (HS.ret (HE.tup (HEs.cons (HE.str "other") HEs.nil))) HSs.nil)) D σ M' := fun p M' D σ h => by
    have e : hev P0 1 [.tup [.str "place", .int p]] (HE.fld "place") = some (.int p) := by
      unfold hev
      rw [if_pos hx]
      rfl
    refine ⟨true, by unfold hev; rw [s2]; rfl, ?_⟩
    rw [if_pos rfl]
    refine ⟨.tup [.str "malformed", .int p], ?_, h⟩
    simp only [hev, hevs]
    unfold hev at e
    rw [e]
    rfl
  rcases h with ⟨h1, h2⟩ | ⟨s, r, n, m, ixs, hp, B, rfl⟩
  · refine ⟨a, ns, rfl, ha, hn, .inl ⟨h1, ?_⟩⟩
    cases e : frA ns with
    | ok d' j =>
      rw [e] at h2
      have h2 : d = d' := h2
      subst h2
      exact q
    | er p j =>
      rw [e] at h2
      have h2 : d = .tup [.str "malformed", .int p] := h2
      subst h2
      intro M' f
      exact ⟨true, s1, by rw [if_pos rfl]; exact raised p M' _ _ (q M' f)⟩
  · exact ⟨a, ns, rfl, ha, hn, .inr ⟨s, r, n, m, ixs, hp, B, q⟩⟩
end K52
end
section
set_option autoImplicit false
set_option pp.maxSteps 300
set_option linter.all false
set_option maxRecDepth 100000
set_option maxHeartbeats 4000000
namespace K52
open L3
open PySem (Addr Str PyData NestedKey)
theorem ok__law_count : Keeps P0 sp_write_count 2 b__law_count := by
  rintro ds M Q X ⟨n, rfl, hn, q⟩
  show wpSs P0 b__law_count _ _ [some (.int n), none] M
  unfold b__law_count
  simp only [wpSs, wpS, wpE, wpEs, wpT, xat, L3.wA, D.isNon, D.cn, wipeL]
  refine ⟨by decide, fun p hp => ?_⟩
  simp only [wpSs, wpS, wpE, wpEs, wpT, xat, L3.wA, D.isNon, D.cn, wipeL]
  refine whL_inv (fun m σ M' => ∃ (r : Nat) (ys : List Int), m = r ∧ σ = [some (.int (r : Nat)), some (.ref p)] ∧ M' p = some (.lst (ys.map .int)) ∧ ys ++ wcF r = wcF n ∧ Fr (At p) M M') n ⟨n, [], rfl, rfl, mset_same, rfl, Fr.set rfl⟩ ?_
  rintro m σ M' nx ⟨r, ys, rfl, rfl, hM, he, g⟩ hnx
  have hl : ys.length + (wcF m).length ≤ 5000 := by rw [← List.length_append, he]; exact hn
  have hl1 : 1 ≤ (wcF m).length := List.length_pos_iff.mpr wcF_ne
  simp only [wpSs, wpS, wpE, wpEs, wpT, xat, L3.wA, D.isNon, D.cn, wipeL]
  split
  · rename_i h
    have h : 128 ≤ m := by omega
    unfold b__law_count_0
    simp only [wpSs, wpS, wpE, wpEs, wpT, xat, L3.wA, D.isNon, D.cn, wipeL]
    refine ⟨by rw [w_rcvL hM]; rfl, by decide, (w_app hM).mpr ⟨by rw [List.length_map]; show _ < 2 ^ 24; omega, ⟨by decide, by decide⟩, hnx (m / 128) _ _ (by omega) ⟨m / 128, ys ++ [128 + (m : Int) % 128], rfl, ?_, ?_, ?_, g.trans (Fr.set rfl)⟩⟩⟩
    · rw [show ((m : Int) / 128) = ((m / 128 : Nat) : Int) by omega]
    · rw [mset_same, ints_app]
    · rw [← he, List.append_assoc, wcF_big h]
      rfl
  · rename_i h
    refine ⟨sl_small _ (by simp), fun p2 hp2 => ?_⟩
    have a2 : mset M' p2 (.lst [D.int m]) p2 = some (.lst (([(m : Int)] : List Int).map .int)) := mset_same
    have a1 := (Fr.new (O := No) (o := .lst [D.int m]) hp2).get (fun w => w) hM
    refine add_LI a1 a2 (by simp; omega) fun p3 M3 hp3 a3 g3 => ?_
    have e : ys ++ [(m : Int)] = wcF n := by rw [← he, wcF_small (by omega)]
    rw [e] at a3
    have gA : Fr No M (mset M' p2 (.lst [D.int m])) := Fr.hide1 hp (g.trans (Fr.new hp2))
    exact q p3 M3 (gA.no0 (fun w => w) hp3) a3 (gA.trans g3)
end K52
end
section
set_option autoImplicit false
set_option pp.maxSteps 300
set_option linter.all false
set_option maxRecDepth 100000
set_option maxHeartbeats 4000000
namespace K52
open L3
open PySem (Addr Str PyData NestedKey)
theorem ok__law_draw : Keeps P0 sp__law_draw 3 b__law_draw := by
  rintro ds M Q X ⟨b, d, m, rfl, hm, ⟨xs, at_, h1, h2, h3⟩, q⟩
  show wpSs P0 b__law_draw _ _ [some (.ref b), some (.int m), none] M
  unfold b__law_draw
  simp only [wpSs, wpS, wpE, wpEs, wpT, xat, L3.wA, D.isNon, D.cn, wipeL]
  refine (w_ixL h1).mpr ⟨.int at_, rfl, ?_⟩
  simp only [wpSs, wpS, wpE, wpEs, wpT, xat, L3.wA, D.isNon, D.cn, wipeL]
  refine (w_set h1).mpr ⟨⟨by decide, by show (1 : Int) < 2; decide⟩, ?_⟩
  have g1 : mset M b (.lst ([D.ref d, .int at_].set (Int.toNat 1) (.int ((at_ : Int) + 1)))) b = some (.lst [.ref d, .int ((at_ : Int) + 1)]) := mset_same
  have g2 : mset M b (.lst ([D.ref d, .int at_].set (Int.toNat 1) (.int ((at_ : Int) + 1)))) d = some (.lst (xs.map .int)) := (mset_ne h3.symm).trans h2
  have bx : BX (mset M b (.lst ([D.ref d, .int at_].set (Int.toNat 1) (.int ((at_ : Int) + 1))))) b d := ⟨xs, at_ + 1, g1, g2, h3⟩
  have bt : Fr (At b) M (mset M b (.lst ([D.ref d, .int at_].set (Int.toNat 1) (.int ((at_ : Int) + 1))))) := Fr.set rfl
  revert g1 g2 bx bt
  generalize mset M b (.lst ([D.ref d, .int at_].set (Int.toNat 1) (.int ((at_ : Int) + 1)))) = M1
  intro g1 g2 bx bt
  refine (w_ixL g1).mpr ⟨.ref d, rfl, ?_⟩
  refine (w_lenL g2).mpr ?_
  simp only [wpSs, wpS, wpE, wpEs, wpT, xat, L3.wA, D.isNon, D.cn, wipeL]
  split
  · rename_i hlt
    have hk : at_ < xs.length := by simpa using hlt
    refine (w_ixL g1).mpr ⟨.ref d, rfl, ?_⟩
    refine (w_ixL g2).mpr ⟨.int xs[at_], atD_ints hk, ?_⟩
    simp only [wpSs, wpS, wpE, wpEs, wpT, xat, L3.wA, D.isNon, D.cn, wipeL]
    exact ⟨hm, q _ _ (Int.emod_nonneg _ (by omega)) (Int.emod_lt_of_pos _ hm) bx bt⟩
  · exact ⟨mulK ⟨by decide, by decide⟩, hm, q _ _ (Int.emod_nonneg _ (by omega)) (Int.emod_lt_of_pos _ hm) bx bt⟩
end K52
end
section
set_option autoImplicit false
set_option pp.maxSteps 300
set_option linter.all false
set_option maxRecDepth 100000
set_option maxHeartbeats 4000000
namespace K52
open L3
open PySem (Addr Str PyData NestedKey)
theorem ok_write_count : Keeps P0 sp_write_count 2 b_write_count := by
  rintro ds M Q X ⟨n, rfl, hn, q⟩
  show wpSs P0 b_write_count _ _ [some (.int n), none] M
  unfold b_write_count
  simp only [wpSs, wpS, wpE, wpEs, wpT, xat, L3.wA, D.isNon, D.cn, wipeL]
  refine ⟨by decide, fun p hp => ?_⟩
  simp only [wpSs, wpS, wpE, wpEs, wpT, xat, L3.wA, D.isNon, D.cn, wipeL]
  refine whL_inv (fun m σ M' => ∃ (r : Nat) (ys : List Int), m = r ∧ σ = [some (.int (r : Nat)), some (.ref p)] ∧ M' p = some (.lst (ys.map .int)) ∧ ys ++ wcF r = wcF n ∧ Fr (At p) M M') n ⟨n, [], rfl, rfl, mset_same, rfl, Fr.set rfl⟩ ?_
  rintro m σ M' nx ⟨r, ys, rfl, rfl, hM, he, g⟩ hnx
  have hl : ys.length + (wcF m).length ≤ 5000 := by rw [← List.length_append, he]; exact hn
  have hl1 : 1 ≤ (wcF m).length := List.length_pos_iff.mpr wcF_ne
  simp only [wpSs, wpS, wpE, wpEs, wpT, xat, L3.wA, D.isNon, D.cn, wipeL]
  split
  · rename_i h
    have h : 128 ≤ m := by omega
    unfold b_write_count_0
    simp only [wpSs, wpS, wpE, wpEs, wpT, xat, L3.wA, D.isNon, D.cn, wipeL]
    refine ⟨by rw [w_rcvL hM]; rfl, by decide, (w_app hM).mpr ⟨by rw [List.length_map]; show _ < 2 ^ 24; omega, ⟨by decide, by decide⟩, hnx (m / 128) _ _ (by omega) ⟨m / 128, ys ++ [128 + (m : Int) % 128], rfl, ?_, ?_, ?_, g.trans (Fr.set rfl)⟩⟩⟩
    · rw [show ((m : Int) / 128) = ((m / 128 : Nat) : Int) by omega]
    · rw [mset_same, ints_app]
    · rw [← he, List.append_assoc, wcF_big h]
      rfl
  · rename_i h
    refine ⟨by rw [w_rcvL hM]; rfl, (w_app hM).mpr ⟨by rw [List.length_map]; show _ < 2 ^ 24; omega, q p _ hp ?_ (Fr.hide1 hp (g.trans (Fr.set rfl)))⟩⟩
    rw [mset_same, ints_app, ← he, wcF_small (by omega)]
end K52
end
section
set_option autoImplicit false
set_option pp.maxSteps 300
set_option linter.all false
set_option maxRecDepth 100000
set_option maxHeartbeats 4000000
namespace K52
open L3
open PySem (Addr Str PyData NestedKey)
theorem ok_write_reference : Keeps P0 sp_never 1 b_write_reference := fun _ _ _ _ h => h.elim
end K52
end
section
set_option autoImplicit false
set_option pp.maxSteps 300
set_option linter.all false
set_option maxRecDepth 100000
set_option maxHeartbeats 4000000
namespace K52
open L3
open PySem (Addr Str PyData NestedKey)
theorem ok_write_text : Keeps P0 sp_write_text 3 b_write_text := by
  rintro ds M Q X ⟨ixs, rfl, hx, hk, q⟩
  show wpSs P0 b_write_text _ _ [some (.str (txtS ixs)), none, none] M
  unfold b_write_text
  simp only [wpSs, wpS, wpE, wpEs, wpT, xat, L3.wA, D.isNon, D.cn, wipeL, qA]
  rw [txtS_len]
  have w1 : (wcF ixs.length).length ≤ 2 := wcF_len (k := 1) (by omega)
  refine ⟨sl_small _ (by omega), ixs.length, rfl, by omega, fun p M1 hp hM1 g1 => ?_⟩
  simp only [wpSs, wpS, wpE, wpEs, wpT, xat, L3.wA, D.isNon, D.cn, wipeL]
  rw [txtS_cps]
  refine ⟨sl_small _ (by omega), forL_inv (fun i σ M' => ∃ t : Option D, σ = [some (.str (txtS ixs)), some (.ref p), t] ∧ M' p = some (.lst ((wcF ixs.length ++ (ixs.take i).map (fun (k : Nat) => (k : Int))).map .int)) ∧ Fr No M M' ∧ i ≤ ixs.length) ⟨none, rfl, by simpa using hM1, g1, Nat.zero_le _⟩ ?_ ?_⟩
  · rintro i x σ M' nx hx' ⟨t, rfl, hM, g, hi⟩ hnx
    rw [List.getElem?_map, List.getElem?_map] at hx'
    obtain ⟨k, hc, rfl⟩ : ∃ k, ixs[i]? = some k ∧ x = .str ⟨#[chS.cps.getD k 0]⟩ := by
      cases e : ixs[i]? with
      | none => rw [e] at hx'; cases hx'
      | some c => rw [e] at hx'; cases hx'; exact ⟨c, rfl, rfl⟩
    have hik : i < ixs.length := (List.getElem?_eq_some_iff.mp hc).1
    have hk94 := hx k (List.mem_of_getElem? hc)
    refine ⟨trivial, ?_⟩
    unfold b_write_text_0
    simp only [wpSs, wpS, wpE, wpEs, wpT, xat, L3.wA, D.isNon, D.cn, wipeL]
    obtain ⟨r, ho⟩ := occ_ch hk94
    refine ⟨by rw [w_rcvL hM]; rfl, rfl, k, r, ho, k, rfl, ?_, fun p2 M2 hp2 hM2 g2 => ?_⟩
    · rw [wcF_small (by omega)]; exact Nat.le_of_ble_eq_true rfl
    have hM' := g2.get (fun w => w) hM
    rw [wcF_small (by omega)] at hM2
    refine ⟨by rw [w_rcvL hM, w_rcvL hM'], (w_ext hM' hM2).mpr ⟨sl_small _ ?_, hnx _ _ ⟨_, rfl, ?_, ?_, by omega⟩⟩⟩
    · simp only [List.length_map, List.length_append, List.length_take, List.length_singleton]
      omega
    · rw [mset_same, ← List.map_append, List.append_assoc, List.take_succ, hc]
      simp
    · exact Fr.hide1 hp ((g.trans g2).any.trans (Fr.set rfl))
  · rintro σ M' ⟨t, rfl, hM, g, hi⟩
    refine ⟨trivial, ?_⟩
    simp only [wpSs, wpS, wpE, wpEs, wpT, xat, L3.wA, D.isNon, D.cn, wipeL]
    rw [List.length_map, List.length_map, List.take_length] at hM
    exact q p M' hp hM g
end K52
end
section
set_option autoImplicit false
set_option pp.maxSteps 300
set_option linter.all false
set_option maxRecDepth 100000
set_option maxHeartbeats 4000000
namespace K52
open L3
open PySem (Addr Str PyData NestedKey)
theorem ok_write_atom : Keeps P0 sp_never 1 b_write_atom := fun _ _ _ _ h => h.elim
end K52
end
section
set_option autoImplicit false
set_option pp.maxSteps 300
set_option linter.all false
set_option maxRecDepth 100000
set_option maxHeartbeats 4000000
namespace K52
open L3
open PySem (Addr Str PyData NestedKey)
theorem ok_write_value : Keeps P0 sp_never 3 b_write_value := fun _ _ _ _ h => h.elim
end K52
end
section
set_option autoImplicit false
set_option pp.maxSteps 300
set_option linter.all false
set_option maxRecDepth 100000
set_option maxHeartbeats 4000000
namespace K52
open L3
open PySem (Addr Str PyData NestedKey)
theorem ok_write_weight : Keeps P0 sp_never 1 b_write_weight := fun _ _ _ _ h => h.elim
end K52
end
section
set_option autoImplicit false
set_option pp.maxSteps 300
set_option linter.all false
set_option maxRecDepth 100000
set_option maxHeartbeats 4000000
namespace K52
open L3
open PySem (Addr Str PyData NestedKey)
theorem ok_write_weights : Keeps P0 sp_never 3 b_write_weights := fun _ _ _ _ h => h.elim
end K52
end
section
set_option autoImplicit false
set_option pp.maxSteps 300
set_option linter.all false
set_option maxRecDepth 100000
set_option maxHeartbeats 4000000
namespace K52
open L3
open PySem (Addr Str PyData NestedKey)
theorem ok_write_send : Keeps P0 sp_never 1 b_write_send := fun _ _ _ _ h => h.elim
end K52
end
section
set_option autoImplicit false
set_option pp.maxSteps 300
set_option linter.all false
set_option maxRecDepth 100000
set_option maxHeartbeats 4000000
namespace K52
open L3
open PySem (Addr Str PyData NestedKey)
theorem ok_write_message : Keeps P0 sp_never 10 b_write_message := fun _ _ _ _ h => h.elim
end K52
end
section
set_option autoImplicit false
set_option pp.maxSteps 300
set_option linter.all false
set_option maxRecDepth 100000
set_option maxHeartbeats 4000000
namespace K52
open L3
open PySem (Addr Str PyData NestedKey)
theorem ok_write_target : Keeps P0 sp_never 3 b_write_target := fun _ _ _ _ h => h.elim
end K52
end
section
set_option autoImplicit false
set_option pp.maxSteps 300
set_option linter.all false
set_option maxRecDepth 100000
set_option maxHeartbeats 4000000
namespace K52
open L3
open PySem (Addr Str PyData NestedKey)
theorem n_bm : (("break" : Str) = "message") = False := eq_false (by decide +kernel)
theorem n_fb : (("fulfill" : Str) = "break") = False := eq_false (by decide +kernel)
theorem n_rb : (("resolved" : Str) = "break") = False := eq_false (by decide +kernel)
theorem n_rbb : (("resolved_broken" : Str) = "break") = False := eq_false (by decide +kernel)
theorem w_in2 {x a b : Str} {M : Mp} {k : Bool → Prop} : wpIn (.str x) (.tup [.str a, .str b]) M k ↔ k (decide (a = x) || decide (b = x)) := by
  show (((D.str x).flat = true ∧ ∀ d ∈ [D.str a, D.str b], d.flat = true) ∧ k ([D.str a, D.str b].any fun z => z.eqv (.str x))) ↔ _
  have e : ([D.str a, D.str b].any fun z => z.eqv (.str x)) = (decide (a = x) || decide (b = x)) := by
    simp only [List.any_cons, List.any_nil, Bool.or_false, eqv_str]
  rw [e]
  exact ⟨fun h => h.2, fun h => ⟨⟨rfl, fun d hd => by
    rcases List.mem_cons.mp hd with rfl | hd
    · rfl
    · rw [List.mem_singleton] at hd
      subst hd
      rfl⟩, h⟩⟩
theorem ok_write_content : Keeps P0 sp_wcBreak 9 b_write_content := by
  rintro ds M Q X ⟨m, ixs, rfl, hm, ht, hl, q⟩
  show wpSs P0 b_write_content _ _ [some (brD m ixs), none, none, none, none, none, none, none, none] M
  have lm : (wcF m).length ≤ 5 := wcF_len (k := 4) hm
  have ll : (wcF ixs.length).length ≤ 2 := wcF_len (k := 1) (by omega)
  have lt : (wtF ixs).length ≤ 102 := by unfold wtF; rw [List.length_append, List.length_map]; omega
  unfold b_write_content brD
  simp only [wpSs, wpS, wpE, wpEs, wpT, xat, L3.wA, D.isNon, D.cn, wipeL, qA, n_bm, n_fb, n_rb, n_rbb, w_in2, decide_false, Bool.or_self, Bool.false_eq_true, if_false, decide_true, Bool.true_or, if_true]
  refine ⟨sl_small _ (by simp), sl_small _ (by simp), m, rfl, by omega, fun p M1 hp hM1 g1 => ?_⟩
  refine ⟨ixs, rfl, ht, hl, fun p2 M2 hp2 hM2 g2 => ?_⟩
  exact add_LI (g2.get (fun w => w) hM1) hM2 (by omega) (q.on (g1.trans g2))
end K52
end
section
set_option autoImplicit false
set_option pp.maxSteps 300
set_option linter.all false
set_option maxRecDepth 100000
set_option maxHeartbeats 4000000
namespace K52
open L3
open PySem (Addr Str PyData NestedKey)
theorem ok_write_packet : Keeps P0 sp_wpBreak 6 b_write_packet := by
  rintro ds M Q X ⟨s, r, n, m, ixs, rfl, B, q⟩
  show wpSs P0 b_write_packet _ _ [some (pkD s r n m ixs), none, none, none, none, none] M
  unfold b_write_packet pkD
  simp only [wpSs, wpS, wpE, wpEs, wpT, xat, L3.wA, D.isNon, D.cn, wipeL, qA]
  refine ⟨_, rfl, ?_⟩
  simp only [wpSs, wpS, wpE, wpEs, wpT, xat, L3.wA, D.isNon, D.cn, wipeL, qA]
  have ls : (wcF s).length ≤ 1 := wcF_len (k := 0) (by have := B.s; omega)
  have lr : (wcF r).length ≤ 1 := wcF_len (k := 0) (by have := B.r; omega)
  have ln : (wcF n).length ≤ 5 := wcF_len (k := 4) (by have := B.n; omega)
  have lm : (wcF m).length ≤ 5 := wcF_len (k := 4) (by have := B.m; omega)
  have ll : (wcF ixs.length).length ≤ 1 := wcF_len (k := 0) (by have := B.l; omega)
  have lt : (wtF ixs).length ≤ 21 := by unfold wtF; rw [List.length_append, List.length_map]; have := B.l; omega
  refine ⟨sl_small _ (by simp), fun p0 hp0 => ?_⟩
  have a0 : mset M p0 (.lst [D.int 1]) p0 = some (.lst (([1] : List Int).map .int)) := mset_same
  refine ⟨s, rfl, by omega, fun p1 M1 hp1 a1 g1 => ?_⟩
  refine add_LI (g1.get (fun w => w) a0) a1 (by simp; omega) fun p2 M2 hp2 a2 g2 => ?_
  refine ⟨r, rfl, by omega, fun p3 M3 hp3 a3 g3 => ?_⟩
  refine add_LI (g3.get (fun w => w) a2) a3 (by simp; omega) fun p4 M4 hp4 a4 g4 => ?_
  refine ⟨n, rfl, by omega, fun p5 M5 hp5 a5 g5 => ?_⟩
  refine add_LI (g5.get (fun w => w) a4) a5 (by simp; omega) fun p6 M6 hp6 a6 g6 => ?_
  have eb : brD m ixs = .tup [.str "break", .int m, .str (txtS ixs)] := rfl
  have two : ∀ Q : Post, wpIx (brD m ixs) (.int 0) M6 Q ↔ Q (.str "break") M6 := fun Q => by rw [eb]; exact w_ix0
  simp only [two]
  refine ⟨["message", "fulfill", "break", "subscribe", "resolved", "resolved_broken", "release", "release_answer", "transfer"], "break", 2, rfl, rfl, rfl, fun m hm => ?_, sl_small _ (by simp), fun p7 hp7 => ?_⟩
  · match m, hm with
    | 0, _ => exact fun z => absurd (Option.some.inj z) (by decide +kernel)
    | 1, _ => exact fun z => absurd (Option.some.inj z) (by decide +kernel)
  have a7 : mset M6 p7 (.lst [D.int (2 : Nat)]) p7 = some (.lst (([2] : List Int).map .int)) := mset_same
  have g7 : Fr No M6 (mset M6 p7 (.lst [D.int (2 : Nat)])) := Fr.new hp7
  refine add_LI (g7.get (fun w => w) a6) a7 (by simp; omega) fun p8 M8 hp8 a8 g8 => ?_
  refine ⟨m, ixs, rfl, by have := B.m; omega, B.t, by have := B.l; omega, fun p9 M9 hp9 a9 g9 => ?_⟩
  have gA : Fr No M M9 := ((((((((Fr.new hp0).trans g1).trans g2).trans g3).trans g4).trans g5).trans g6).trans g7).trans (g8.trans g9)
  exact add_LI (g9.get (fun w => w) a8) a9 (by simp; omega) (q.on gA)
end K52
end
section
set_option autoImplicit false
set_option pp.maxSteps 300
set_option linter.all false
set_option maxRecDepth 100000
set_option maxHeartbeats 4000000
namespace K52
open L3
open PySem (Addr Str PyData NestedKey)
theorem ok_write_acknowledgement : Keeps P0 sp_write_acknowledgement 3 b_write_acknowledgement := by
  rintro ds M Q X ⟨s, r, n, rfl, hs, hr, hn, q⟩
  show wpSs P0 b_write_acknowledgement _ _ [some (.int s), some (.int r), some (.int n)] M
  unfold b_write_acknowledgement
  simp only [wpSs, wpS, wpE, wpEs, wpT, xat, L3.wA, D.isNon, D.cn, wipeL, qA]
  have ls : (wcF s).length ≤ 1 := wcF_len (k := 0) (by omega)
  have lr : (wcF r).length ≤ 1 := wcF_len (k := 0) (by omega)
  have ln : (wcF n).length ≤ 5 := wcF_len (k := 4) hn
  refine ⟨sl_small _ (by simp), fun p0 hp0 => ?_⟩
  have a0 : mset M p0 (.lst [D.int 2]) p0 = some (.lst (([2] : List Int).map .int)) := mset_same
  refine ⟨s, rfl, by omega, fun p1 M1 hp1 a1 g1 => ?_⟩
  refine add_LI (g1.get (fun w => w) a0) a1 (by simp; omega) fun p2 M2 hp2 a2 g2 => ?_
  refine ⟨r, rfl, by omega, fun p3 M3 hp3 a3 g3 => ?_⟩
  refine add_LI (g3.get (fun w => w) a2) a3 (by simp; omega) fun p4 M4 hp4 a4 g4 => ?_
  refine ⟨n, rfl, by omega, fun p5 M5 hp5 a5 g5 => ?_⟩
  refine add_LI (g5.get (fun w => w) a4) a5 (by simp; omega) fun p6 M6 hp6 a6 g6 => ?_
  have gA : Fr No M M5 := ((((Fr.new hp0).trans g1).trans g2).trans g3).trans (g4.trans g5)
  exact q p6 M6 (gA.no0 (fun w => w) hp6) a6 (gA.trans g6)
end K52
end
section
set_option autoImplicit false
set_option pp.maxSteps 300
set_option linter.all false
set_option maxRecDepth 100000
set_option maxHeartbeats 4000000
namespace K52
open L3
open PySem (Addr Str PyData NestedKey)
theorem ok__law_cell : Keeps P0 sp__law_cell 2 b__law_cell := by
  rintro ds M Q X ⟨ns, k, rfl, q⟩
  show wpSs P0 b__law_cell _ _ [some (.kl (ns.map .int)), some (.int k)] M
  unfold b__law_cell
  simp only [wpSs, wpS, wpE, wpEs, wpT, xat, L3.wA, D.isNon, D.cn, wipeL]
  split
  · rename_i h
    have hk : k < ns.length := by simpa using h
    exact ⟨.int ns[k], atD_ints hk, q _⟩
  · exact q 0
end K52
end
section
set_option autoImplicit false
set_option pp.maxSteps 300
set_option linter.all false
set_option maxRecDepth 100000
set_option maxHeartbeats 4000000
namespace K52
open L3
open PySem (Addr Str PyData NestedKey)
theorem ok__law_digits : Keeps P0 sp__law_digits 8 b__law_digits := by
  rintro ds M Q X ⟨ns, top, rfl, htop, q⟩
  show wpSs P0 b__law_digits _ _ [some (.kl (ns.map .int)), some (.int 0), some (.int top), none, none, none, none, none] M
  unfold b__law_digits
  simp only [wpSs, wpS, wpE, wpEs, wpT, xat, L3.wA, D.isNon, D.cn, wipeL]
  refine ⟨by decide, fun p hp => ?_⟩
  simp only [wpSs, wpS, wpE, wpEs, wpT, xat, L3.wA, D.isNon, D.cn, wipeL]
  refine ⟨⟨sm0 (by decide) (by decide), sm0 (by omega) (by omega)⟩, forL_inv (fun i σ M' => Fr (At p) M M' ∧ ∃ (ys : List Int) (a b c e : Option D), M' p = some (.lst (ys.map .int)) ∧ ys.length ≤ 60 * i ∧ σ = [some (.kl (ns.map .int)), some (.int 0), some (.int top), some (.ref p), a, b, c, e])
    ⟨Fr.set rfl, [], none, none, none, none, mset_same, Nat.le_refl _, rfl⟩ ?_ ?_⟩
  · rintro i x σ M' nx hx ⟨bt, ys, a, b, c, e, hM, hl, rfl⟩ hnx
    obtain ⟨hi, rfl⟩ := dRange_get' hx
    have hi : i < 100 := by omega
    refine ⟨trivial, ?_⟩
    unfold b__law_digits_2
    simp only [wpSs, wpS, wpE, wpEs, wpT, xat, L3.wA, D.isNon, D.cn, wipeL]
    refine ⟨ns, i, by simp, fun n => ?_⟩
    have rest : ∀ n : Int, wpSs P0 (.cons (.ite (.val (.cmp .ge (.var 5) (.bin .pow (.int 10) (.int 18)))) (.cons (.for (.one 6) .range (.cons (.int 60) .nil) b__law_digits_0) .nil) (.cons (.set (.one 7) (.bin .mod (.blt .int (.cons (.bin .add (.bin .add (.bin .mul (.var 5) (.int 48271)) (.bin .mul (.var 4) (.int 69621))) (.int 11)) .nil)) (.int 2147483647))) (.cons (.for (.one 6) .range (.cons (.int 12) .nil) b__law_digits_1) .nil))) .nil) (fun x σ M => (id : Mp → Mp) = id ∧ X x M)
        ⟨nx, fun d M => Q d (id M), fun σ M => wpSs P0 (.cons (.ret (.var 3)) .nil) (fun x _ M => X x M) ⟨fun _ M => Q .non M, Q, fun _ _ => False, fun _ _ => False⟩ σ (id M), nx⟩ [some (.kl (ns.map .int)), some (.int 0), some (.int top), some (.ref p), some (.int (0 + (i : Int))), some (.int n), c, e] M' := fun n => by
      simp only [wpSs, wpS, wpE, wpEs, wpT, xat, L3.wA, D.isNon, D.cn, wipeL]
      refine ⟨⟨by decide, by decide, by decide⟩, ?_⟩
      split
      · refine ⟨sm0 (by decide) (by decide), forL_inv (fun j σ M' => Fr (At p) M M' ∧ ∃ (ys : List Int) (n : Int) (c : Option D), M' p = some (.lst (ys.map .int)) ∧ ys.length ≤ 60 * i + j ∧ σ = [some (.kl (ns.map .int)), some (.int 0), some (.int top), some (.ref p), some (.int (0 + (i : Int))), some (.int n), c, e]) ⟨bt, ys, n, c, hM, hl, rfl⟩ ?_ ?_⟩
        · rintro j x σ M' nx2 hx2 ⟨bt, ys, n, c, hM, hl, rfl⟩ hnx2
          obtain ⟨hj, rfl⟩ := dRange_get' hx2
          have hj : j < 60 := hj
          refine ⟨trivial, ?_⟩
          unfold b__law_digits_0
          simp only [wpSs, wpS, wpE, wpEs, wpT, xat, L3.wA, D.isNon, D.cn, wipeL]
          split
          · refine ⟨by rw [w_rcvL hM]; rfl, by decide, (w_app hM).mpr ⟨by rw [List.length_map]; show _ < 2 ^ 24; omega, ⟨by decide, by decide⟩, hnx2 _ _ ⟨bt.trans (Fr.set rfl), ys ++ [n % 1000], n / 1000, _, by rw [mset_same, ints_app], by rw [List.length_append]; show ys.length + 1 ≤ _; omega, rfl⟩⟩⟩
          · exact hnx2 _ _ ⟨bt, ys, n, _, hM, by omega, rfl⟩
        · rintro σ M' ⟨bt, ys, n, c, hM, hl, rfl⟩
          rw [dRange_len] at hl
          exact ⟨trivial, hnx _ _ ⟨bt, ys, _, _, _, _, hM, by omega, rfl⟩⟩
      · refine ⟨mulK ⟨by decide, by decide⟩, mulK ⟨by decide, by decide⟩, by decide, sm0 (by decide) (by decide), forL_inv (fun j σ M' => Fr (At p) M M' ∧ ∃ (ys : List Int) (z : Int) (c : Option D), M' p = some (.lst (ys.map .int)) ∧ ys.length ≤ 60 * i + j ∧ σ = [some (.kl (ns.map .int)), some (.int 0), some (.int top), some (.ref p), some (.int (0 + (i : Int))), some (.int n), c, some (.int z)]) ⟨bt, ys, _, c, hM, hl, rfl⟩ ?_ ?_⟩
        · rintro j x σ M' nx2 hx2 ⟨bt, ys, z, c, hM, hl, rfl⟩ hnx2
          obtain ⟨hj, rfl⟩ := dRange_get' hx2
          have hj : j < 12 := hj
          refine ⟨trivial, ?_⟩
          unfold b__law_digits_1
          simp only [wpSs, wpS, wpE, wpEs, wpT, xat, L3.wA, D.isNon, D.cn, wipeL]
          refine ⟨mulK ⟨by decide, by decide⟩, .inl ⟨by decide, by decide⟩, by decide, by rw [w_rcvL hM]; rfl, ⟨by decide, by decide⟩, by decide, (w_app hM).mpr ⟨by rw [List.length_map]; show _ < 2 ^ 24; omega, hnx2 _ _ ⟨bt.trans (Fr.set rfl), ys ++ [_], _, _, by rw [mset_same, ints_app], by rw [List.length_append]; show ys.length + 1 ≤ _; omega, rfl⟩⟩⟩
        · rintro σ M' ⟨bt, ys, z, c, hM, hl, rfl⟩
          rw [dRange_len] at hl
          exact ⟨trivial, hnx _ _ ⟨bt, ys, _, _, _, _, hM, by omega, rfl⟩⟩
    have rest' := rest
    simp only [wpSs, wpS, wpE, wpEs, wpT, xat, L3.wA, D.isNon, D.cn, wipeL] at rest' ⊢
    split
    · exact ⟨.inl ⟨by decide, by decide⟩, rest' _⟩
    · exact rest' n
  · rintro σ M' ⟨bt, ys, a, b, c, e, hM, hl, rfl⟩
    refine ⟨trivial, ?_⟩
    simp only [wpSs, wpS, wpE, wpEs, wpT, xat, L3.wA, D.isNon, D.cn, wipeL]
    exact q p ys M' hp hM (Fr.hide1 hp bt)
end K52
end
section
set_option autoImplicit false
set_option pp.maxSteps 300
set_option linter.all false
set_option maxRecDepth 100000
set_option maxHeartbeats 4000000
namespace K52
open L3
open PySem (Addr Str PyData NestedKey)
theorem ok_law : Keeps P0 sp_law 10 b_law := by
  rintro ds M Q X ⟨ns, rfl, -, q⟩
  show wpSs P0 b_law _ _ [some (.kl (ns.map .int)), none, none, none, none, none, none, none, none, none] M
  unfold b_law
  simp only [wpSs, wpS, wpE, wpEs, wpT, xat, L3.wA, D.isNon, D.cn, wipeL, qA]
  refine ⟨ns, 30, rfl, by decide, fun d ys M1 hd0 hd f1 => ⟨sl_small _ (by simp), fun b hb => ?_⟩⟩
  have bx : BX (mset M1 b (.lst [.ref d, .int 0])) b d := ⟨ys, 0, mset_same, by rw [mset_ne (Fr.ne hd hb)]; exact hd, (Fr.ne hd hb).symm⟩
  revert bx
  generalize mset M1 b _ = M2
  intro bx
  refine ⟨b, d, 9, rfl, by decide, bx, fun v1 M3 l1 u1 bx3 _ => ?_⟩
  simp only [wpSs, wpS, wpE, wpEs, wpT, xat, L3.wA, D.isNon, D.cn, wipeL]
  refine ⟨b, d, 9, rfl, by decide, bx3, fun v2 M4 l2 u2 bx4 _ => ?_⟩
  simp only [wpSs, wpS, wpE, wpEs, wpT, xat, L3.wA, D.isNon, D.cn, wipeL]
  refine ⟨b, d, 1000, rfl, by decide, bx4, fun v3 M5 l3 u3 bx5 _ => ?_⟩
  refine ⟨b, d, 1000, rfl, by decide, bx5, fun v4 M6 l4 u4 bx6 _ => ?_⟩
  simp only [wpSs, wpS, wpE, wpEs, wpT, xat, L3.wA, D.isNon, D.cn, wipeL]
  refine ⟨mulK ⟨by omega, by omega⟩, ?_⟩
  obtain ⟨s, es⟩ : ∃ s : Nat, 1 + v1 = (s : Int) := ⟨(1 + v1).toNat, by omega⟩
  obtain ⟨r, er⟩ : ∃ r : Nat, 1 + v2 = (r : Int) := ⟨(1 + v2).toNat, by omega⟩
  have p0 : 0 ≤ v3 * v4 := Int.mul_nonneg l3 l4
  have p1 : v3 * v4 ≤ 999 * 999 := Int.mul_le_mul (by omega) (by omega) l4 (by decide)
  obtain ⟨n, en⟩ : ∃ n : Nat, v3 * v4 = (n : Int) := ⟨(v3 * v4).toNat, by omega⟩
  rw [es, er, en]
  have hs : 1 ≤ s ∧ s ≤ 9 := by omega
  have hr : 1 ≤ r ∧ r ≤ 9 := by omega
  have hn : n ≤ 998001 := by omega
  have ln : (wcF n).length ≤ 5 := wcF_len (k := 4) (by omega)
  clear es er en l1 u1 l2 u2 p0 p1 l3 l4 u3 u4 v1 v2 v3 v4
  refine ⟨s, r, n, rfl, by omega, by omega, by omega, fun a M7 ha0 ha f7 => ?_⟩
  have bx7 := bx6.no f7
  have nb : a ≠ b ∧ a ≠ d := ⟨by rintro rfl; exact bx6.has.1 ha0, by rintro rfl; exact bx6.has.2 ha0⟩
  have eak := akF_eq (n := n) hs hr
  have lak : (akF s r n).length = 3 + (wcF n).length := by rw [eak]; simp only [List.length_cons]; omega
  have sak : ∀ x ∈ akF s r n, x.natAbs < 2 ^ 60 := fun x hx => by
    rw [eak] at hx
    rcases List.mem_cons.mp hx with rfl | hx
    · decide
    rcases List.mem_cons.mp hx with rfl | hx
    · omega
    rcases List.mem_cons.mp hx with rfl | hx
    · omega
    have := wcF_rng x hx
    omega
  clear bx bx3 bx4 bx5 bx6 f1 f7 ha0
  -- the digits
  refine ⟨sl_small _ (by simp), fun p1 hp1 => ?_⟩
  have g1 : mset M7 p1 (.lst [.int 2, .int s, .int r]) p1 = some (.lst (([2, (s : Int), (r : Int)] : List Int).map .int)) := mset_same
  have bx8 := bx7.new (o := .lst [.int 2, .int s, .int r]) hp1
  have ha8 := (Fr.new (O := No) (o := .lst [.int 2, .int s, .int r]) hp1).get (fun w => w) ha
  revert g1 bx8 ha8
  generalize mset M7 p1 (.lst [.int 2, .int s, .int r]) = M8
  intro g1 bx8 ha8
  refine ⟨n, rfl, by omega, fun p2 M9 hp2 g2 f9 => ?_⟩
  refine add_LI (f9.get (fun w => w) g1) g2 (by simp only [List.length_cons, List.length_nil]; omega) fun p3 M10 hp3 g3 f10 => ?_
  have bx10 := (bx8.no f9).no f10
  have ha10 := f10.get (fun w => w) (f9.get (fun w => w) ha8)
  have g3 : M10 p3 = some (.lst ((akF s r n).map .int)) := by rw [g3, eak]; rfl
  refine same_ints ha10 g3 sak (by omega) ?_
  clear bx7 bx8 ha ha8 g1 g2 g3 f9 f10 hp1 hp2 hp3
  simp only [wpSs, wpS, wpE, wpEs, wpT, xat, L3.wA, D.isNon, D.cn, wipeL, qA]
  -- it is read
  refine ⟨a, _, _, rfl, ha10, by omega, frA_ok hs hr (by omega), fun M11 f11 => ⟨sl_small _ (by simp), ?_⟩⟩
  have bx11 := bx10.no f11
  have ha11 := f11.get (fun w => w) ha10
  clear bx10 ha10 f11
  refine ak_same (by omega) (by omega) (by omega) ?_
  simp only [wpSs, wpS, wpE, wpEs, wpT, xat, L3.wA, D.isNon, D.cn, wipeL, qA]
  -- a packet
  refine ⟨b, d, 900, rfl, by decide, bx11, fun v M12 l1 u1 bx12 f12 => ?_⟩
  simp only [wpSs, wpS, wpE, wpEs, wpT, xat, L3.wA, D.isNon, D.cn, wipeL]
  obtain ⟨m, em⟩ : ∃ m : Nat, 1 + v = (m : Int) := ⟨(1 + v).toNat, by omega⟩
  rw [em]
  have hm : 1 ≤ m ∧ m ≤ 900 := by omega
  have ha12 := f12.get nb.1 ha11
  clear em l1 u1 f12 bx11 ha11
  have eno : (("no" : Str)) = txtS noI := by decide +kernel
  rw [eno]
  have e1 : (1 + (n : Int)) = ((n + 1 : Nat) : Int) := by omega
  rw [e1]
  have B : PkB s r (n + 1) m noI := ⟨hs, hr, by omega, by omega, fun k hk => by
    have : ∀ k ∈ noI, k < 94 := by decide
    exact this k hk, by decide⟩
  refine ⟨sl_small _ (by simp), sl_small _ (by simp), s, r, n + 1, m, noI, rfl, B, fun p4 M13 hp4 h4 f13 => ?_⟩
  have lpk : (pkF s r (n + 1) m noI).length ≤ 1000 := by
    have l1 : (wcF s).length ≤ 1 := wcF_len (k := 0) (by omega)
    have l2 : (wcF r).length ≤ 1 := wcF_len (k := 0) (by omega)
    have l3 : (wcF (n + 1)).length ≤ 5 := wcF_len (k := 4) (by omega)
    have l4 : (wcF m).length ≤ 5 := wcF_len (k := 4) (by omega)
    have l5 : (wtF noI).length = 3 := by decide +kernel
    unfold pkF
    simp only [List.length_append, List.length_cons, List.length_nil]
    omega
  refine ⟨p4, _, _, rfl, h4, by omega, .inr ⟨s, r, n + 1, m, noI, rfl, B, rfl⟩, fun M14 f14 => ⟨sl_small _ (by simp), ?_⟩⟩
  have bx14 := (bx12.no f13).no f14
  have ha14 := f14.get (fun w => w) (f13.get (fun w => w) ha12)
  clear bx12 ha12 f13 f14 h4 hp4 lpk
  refine pk_same B ?_
  clear B
  simp only [wpSs, wpS, wpE, wpEs, wpT, xat, L3.wA, D.isNon, D.cn, wipeL, qA]
  -- cut
  refine (w_lenL ha14).mpr ⟨b, d, _, rfl, by rw [List.length_map]; omega, bx14, fun v M15 l1 u1 bx15 f15 => ?_⟩
  rw [List.length_map] at u1
  obtain ⟨c, rfl⟩ : ∃ c : Nat, v = (c : Int) := ⟨v.toNat, by omega⟩
  have ha15 := f15.get nb.1 ha14
  clear bx14 ha14 f15
  refine (w_slL ha15).mpr ⟨⟨rfl, rfl⟩, fun p5 hp5 => ?_⟩
  rw [cutI_hi (by omega)]
  refine ⟨p5, _, _, rfl, mset_same, by rw [List.length_take]; omega, frA_cut hs hr (by omega) (by omega), fun M16 f16 => ⟨sl_small _ (by simp), ?_⟩⟩
  have bx16 := (bx15.new (o := .lst (((akF s r n).take c).map .int)) hp5).no f16
  have ha16 := f16.get (fun w => w) ((Fr.new (O := No) (o := .lst (((akF s r n).take c).map .int)) hp5).get (fun w => w) ha15)
  refine mf_same (p := (c : Int)) (by omega) ?_
  clear bx15 ha15 f16 hp5 l1 u1
  simp only [wpSs, wpS, wpE, wpEs, wpT, xat, L3.wA, D.isNon, D.cn, wipeL, qA]
  -- gone on with
  refine ⟨b, d, 200, rfl, by decide, bx16, fun v M17 l1 u1 bx17 f17 => ⟨sl_small _ (by simp), fun p6 hp6 => ?_⟩⟩
  have ha17 := f17.get nb.1 ha16
  have g6 : mset M17 p6 (.lst [.int v]) p6 = some (.lst (([v] : List Int).map .int)) := mset_same
  have bx18 := bx17.new (o := .lst [.int v]) hp6
  have ha18 := (Fr.new (O := No) (o := .lst [.int v]) hp6).get (fun w => w) ha17
  revert g6 bx18 ha18
  generalize mset M17 p6 (.lst [.int v]) = M18
  intro g6 bx18 ha18
  refine add_LI ha18 g6 (by simp only [List.length_cons, List.length_nil]; omega) fun p7 M19 hp7 g7 f19 => ?_
  refine ⟨p7, _, _, rfl, g7, by simp only [List.length_append, List.length_cons, List.length_nil]; omega, frA_more hs hr (by omega), fun M20 f20 => ?_⟩
  have bx20 := (bx18.no f19).no f20
  have ha20 := f20.get (fun w => w) (f19.get (fun w => w) ha18)
  clear bx16 ha16 bx17 ha17 bx18 ha18 f17 f19 f20 g6 g7 hp6 hp7 l1 u1
  refine (w_lenL ha20).mpr ⟨sl_small _ (by simp), ?_⟩
  rw [List.length_map]
  refine mf_same (p := ((akF s r n).length : Int)) (by omega) ?_
  simp only [wpSs, wpS, wpE, wpEs, wpT, xat, L3.wA, D.isNon, D.cn, wipeL, qA]
  -- another first number
  refine ⟨sl_small _ (by simp), fun p8 hp8 => ?_⟩
  have g8 : mset M20 p8 (.lst [.int 0, .int 3, .int 127, .int 255, .int 256]) p8 = some (.lst (([0, 3, 127, 255, 256] : List Int).map .int)) := mset_same
  have bx21 := bx20.new (o := .lst [.int 0, .int 3, .int 127, .int 255, .int 256]) hp8
  have n8 : p8 ≠ b := by rintro rfl; exact bx20.has.1 hp8
  have ha21 := (Fr.new (O := No) (o := .lst [.int 0, .int 3, .int 127, .int 255, .int 256]) hp8).get (fun w => w) ha20
  revert g8 bx21 ha21
  generalize mset M20 p8 (.lst [.int 0, .int 3, .int 127, .int 255, .int 256]) = M21
  intro g8 bx21 ha21
  refine ⟨b, d, 5, rfl, by decide, bx21, fun v M22 l1 u1 bx22 f22 => ?_⟩
  have ha22 := f22.get nb.1 ha21
  have g8' := f22.get n8 g8
  obtain ⟨f, hf, f1, f2⟩ : ∃ f : Int, atD (([0, 3, 127, 255, 256] : List Int).map D.int) v = some (.int f) ∧ f ≠ 1 ∧ f ≠ 2 := by
    have : v = 0 ∨ v = 1 ∨ v = 2 ∨ v = 3 ∨ v = 4 := by omega
    rcases this with rfl | rfl | rfl | rfl | rfl
    · exact ⟨0, rfl, by decide, by decide⟩
    · exact ⟨3, rfl, by decide, by decide⟩
    · exact ⟨127, rfl, by decide, by decide⟩
    · exact ⟨255, rfl, by decide, by decide⟩
    · exact ⟨256, rfl, by decide, by decide⟩
  refine (w_ixL g8').mpr ⟨.int f, hf, ?_⟩
  clear bx20 ha20 bx21 ha21 f22 g8 g8' hf l1 u1 hp8 n8
  refine ⟨sl_small _ (by simp), fun p9 hp9 => ?_⟩
  have g9 : mset M22 p9 (.lst [.int f]) p9 = some (.lst (([f] : List Int).map .int)) := mset_same
  have bx23 := bx22.new (o := .lst [.int f]) hp9
  have ha23 := (Fr.new (O := No) (o := .lst [.int f]) hp9).get (fun w => w) ha22
  revert g9 bx23 ha23
  generalize mset M22 p9 (.lst [.int f]) = M23
  intro g9 bx23 ha23
  refine (w_slL ha23).mpr ⟨⟨rfl, rfl⟩, fun p10 hp10 => ?_⟩
  rw [eak, cutI_lo]
  have h10 : mset M23 p10 (.lst ((((s : Int) :: (r : Int) :: wcF n)).map .int)) p10 = some (.lst ((((s : Int) :: (r : Int) :: wcF n)).map .int)) := mset_same
  have f24 : Fr No M23 (mset M23 p10 (.lst ((((s : Int) :: (r : Int) :: wcF n)).map .int))) := Fr.new hp10
  revert h10 f24
  generalize mset M23 p10 (.lst ((((s : Int) :: (r : Int) :: wcF n)).map .int)) = M24
  intro h10 f24
  refine add_LI (f24.get (fun w => w) g9) h10 (by simp only [List.length_cons, List.length_nil]; omega) fun p11 M25 hp11 g11 f25 => ?_
  refine ⟨p11, _, _, rfl, g11, by simp only [List.length_append, List.length_cons, List.length_nil]; omega, frA_first f1 f2, fun M26 f26 => ⟨sl_small _ (by simp), ?_⟩⟩
  have bx26 := ((bx23.no f24).no f25).no f26
  refine mf_same (p := 0) (by decide) ?_
  clear bx22 ha22 bx23 ha23 g9 h10 g11 f24 f25 f26 hp9 hp10 hp11 f1 f2
  simp only [wpSs, wpS, wpE, wpEs, wpT, xat, L3.wA, D.isNon, D.cn, wipeL, qA]
  -- wrong vats
  refine ⟨sl_small _ (by simp), fun p12 hp12 => ?_⟩
  have bx27 := bx26.new (o := .lst [.int 2, .int 0, .int r, .int 1]) hp12
  refine ⟨p12, [2, 0, (r : Int), 1], _, rfl, mset_same, by show 4 ≤ 1000000; decide, frA_v0, fun M28 f28 => ⟨sl_small _ (by simp), ?_⟩⟩
  have bx28 := bx27.no f28
  refine mf_same (p := 1) (by decide) ?_
  clear bx26 bx27 f28 hp12
  simp only [wpSs, wpS, wpE, wpEs, wpT, xat, L3.wA, D.isNon, D.cn, wipeL, qA]
  refine ⟨sl_small _ (by simp), fun p13 hp13 => ?_⟩
  have bx29 := bx28.new (o := .lst [.int 2, .int 1, .int 10, .int 1]) hp13
  refine ⟨p13, [2, 1, 10, 1], _, rfl, mset_same, by decide, frA_v10, fun M30 f30 => ⟨sl_small _ (by simp), ?_⟩⟩
  have bx30 := bx29.no f30
  refine mf_same (p := 2) (by decide) ?_
  clear bx28 bx29 f30 hp13
  simp only [wpSs, wpS, wpE, wpEs, wpT, xat, L3.wA, D.isNon, D.cn, wipeL, qA]
  -- a count that is too great
  refine ⟨⟨by decide, by decide, by decide⟩, b, d, 900, rfl, by decide, bx30, fun v M31 l1 u1 bx31 f31 => ?_⟩
  simp only [wpSs, wpS, wpE, wpEs, wpT, xat, L3.wA, D.isNon, D.cn, wipeL, qA]
  obtain ⟨g, eg⟩ : ∃ g : Nat, ((10 : Int) ^ Int.toNat 9 + 1) + v = (g : Int) := ⟨(1000000001 + v).toNat, by
    have e : (10 : Int) ^ Int.toNat 9 = 1000000000 := by decide
    rw [e]
    omega⟩
  have hg : 1000000000 < g ∧ g ≤ 1000000901 := by
    have e : (10 : Int) ^ Int.toNat 9 = 1000000000 := by decide
    rw [e] at eg
    omega
  rw [eg]
  clear eg l1 u1
  have lg : (wcF g).length ≤ 5 := wcF_len (k := 4) (by omega)
  refine ⟨g, rfl, by omega, fun p14 M32 hp14 g14 f32 => ⟨sl_small _ (by simp), fun p15 hp15 => ?_⟩⟩
  have g15 : mset M32 p15 (.lst [.int 2, .int s, .int r]) p15 = some (.lst (([2, (s : Int), (r : Int)] : List Int).map .int)) := mset_same
  have f33 : Fr No M32 (mset M32 p15 (.lst [.int 2, .int s, .int r])) := Fr.new hp15
  revert g15 f33
  generalize mset M32 p15 (.lst [.int 2, .int s, .int r]) = M33
  intro g15 f33
  have g14' := f33.get (fun w => w) g14
  refine add_LI g15 g14' (by simp only [List.length_cons, List.length_nil]; omega) fun p16 M34 hp16 g16 f34 => ?_
  refine ⟨p16, _, _, rfl, g16, by simp only [List.length_append, List.length_cons, List.length_nil]; omega, frA_great hs hr hg.1 (by omega), fun M35 f35 => ?_⟩
  refine (w_lenL (f35.get (fun w => w) (f34.get (fun w => w) g14'))).mpr ?_
  rw [List.length_map]
  simp only [wpSs, wpS, wpE, wpEs, wpT, xat, L3.wA, D.isNon, D.cn, wipeL]
  refine ⟨sl_small _ (by simp), ?_⟩
  exact mf_same (p := 2 + ((wcF g).length : Int)) (by omega) (q _)
end K52
end
section
set_option Elab.async false
set_option linter.all false
set_option maxRecDepth 100000
set_option maxHeartbeats 0
namespace K52
open L3 PySem.Spec PyProof.Rows L2
open PySem (Addr Str PyData)
theorem S0 : StP P0 md 0 p__law_same := ⟨sc__law_same, ir__law_same, fun xs M Q X h => ln__law_same (X := X) h, ok__law_same, bd__law_same⟩
theorem S1 : StP P0 md 1 p_Reading_digits := ⟨sc_Reading_digits, ir_Reading_digits, fun xs M Q X h => ln_rd_digits (X := X) h, ok_Reading_digits, bd_Reading_digits⟩
theorem S2 : StP P0 md 2 p_Reading_count := ⟨sc_Reading_count, ir_Reading_count, fun xs M Q X h => ln_rd_count (X := X) h, ok_Reading_count, bd_Reading_count⟩
theorem S3 : StP P0 md 3 p_Reading___init__ := ⟨sc_Reading___init__, ir_Reading___init__, fun xs M Q X h => ln_rd_init (X := X) h, ok_Reading___init__, bd_Reading___init__⟩
theorem S4 : StP P0 md 4 p_Reading_big := ⟨sc_Reading_big, ir_Reading_big, fun xs M Q X h => False.elim h, ok_Reading_big, bd_Reading_big⟩
theorem S5 : StP P0 md 5 p_Reading_weight := ⟨sc_Reading_weight, ir_Reading_weight, fun xs M Q X h => False.elim h, ok_Reading_weight, bd_Reading_weight⟩
theorem S6 : StP P0 md 6 p_Reading_text := ⟨sc_Reading_text, ir_Reading_text, fun xs M Q X h => ln_rd_text1 (X := X) h, ok_Reading_text, bd_Reading_text⟩
theorem S7 : StP P0 md 7 p_atoms := ⟨sc_atoms, ir_atoms, fun xs M Q X h => False.elim h, ok_atoms, bd_atoms⟩
theorem S8 : StP P0 md 8 p_is_reference := ⟨sc_is_reference, ir_is_reference, fun xs M Q X h => False.elim h, ok_is_reference, bd_is_reference⟩
theorem S9 : StP P0 md 9 p_references := ⟨sc_references, ir_references, fun xs M Q X h => False.elim h, ok_references, bd_references⟩
theorem S10 : StP P0 md 10 p_distinct := ⟨sc_distinct, ir_distinct, fun xs M Q X h => False.elim h, ok_distinct, bd_distinct⟩
theorem S11 : StP P0 md 11 p_read_weights := ⟨sc_read_weights, ir_read_weights, fun xs M Q X h => False.elim h, ok_read_weights, bd_read_weights⟩
theorem S12 : StP P0 md 12 p_Reading_reference := ⟨sc_Reading_reference, ir_Reading_reference, fun xs M Q X h => False.elim h, ok_Reading_reference, bd_Reading_reference⟩
theorem S13 : StP P0 md 13 p_Reading_atom := ⟨sc_Reading_atom, ir_Reading_atom, fun xs M Q X h => False.elim h, ok_Reading_atom, bd_Reading_atom⟩
theorem S14 : StP P0 md 14 p_Reading_value := ⟨sc_Reading_value, ir_Reading_value, fun xs M Q X h => False.elim h, ok_Reading_value, bd_Reading_value⟩
theorem S15 : StP P0 md 15 p_read_target := ⟨sc_read_target, ir_read_target, fun xs M Q X h => False.elim h, ok_read_target, bd_read_target⟩
theorem S16 : StP P0 md 16 p_read_send := ⟨sc_read_send, ir_read_send, fun xs M Q X h => False.elim h, ok_read_send, bd_read_send⟩
theorem S17 : StP P0 md 17 p_read_method := ⟨sc_read_method, ir_read_method, fun xs M Q X h => False.elim h, ok_read_method, bd_read_method⟩
theorem S18 : StP P0 md 18 p_read_message := ⟨sc_read_message, ir_read_message, fun xs M Q X h => False.elim h, ok_read_message, bd_read_message⟩
theorem S19 : StP P0 md 19 p_read_message_content := ⟨sc_read_message_content, ir_read_message_content, fun xs M Q X h => False.elim h, ok_read_message_content, bd_read_message_content⟩
theorem S20 : StP P0 md 20 p_read_content := ⟨sc_read_content, ir_read_content, fun xs M Q X h => ln_rcBreak (X := X) h, ok_read_content, bd_read_content⟩
theorem S21 : StP P0 md 21 p_read_packet := ⟨sc_read_packet, ir_read_packet, fun xs M Q X h => ln_rpBreak (X := X) h, ok_read_packet, bd_read_packet⟩
theorem S22 : StP P0 md 22 p_read_frame := ⟨sc_read_frame, ir_read_frame, fun xs M Q X h => ln_rd_frame (X := X) h, ok_read_frame, bd_read_frame⟩
theorem S23 : StP P0 md 23 p__law_read := ⟨sc__law_read, ir__law_read, fun xs M Q X h => ln_lawread52 (X := X) h, ok__law_read, bd__law_read⟩
theorem S24 : StP P0 md 24 p__law_count := ⟨sc__law_count, ir__law_count, fun xs M Q X h => ln_write_count (X := X) h, ok__law_count, bd__law_count⟩
theorem S25 : StP P0 md 25 p__law_draw := ⟨sc__law_draw, ir__law_draw, fun xs M Q X h => ln__law_draw (X := X) h, ok__law_draw, bd__law_draw⟩
theorem S26 : StP P0 md 26 p_write_count := ⟨sc_write_count, ir_write_count, fun xs M Q X h => ln_write_count (X := X) h, ok_write_count, bd_write_count⟩
theorem S27 : StP P0 md 27 p_write_reference := ⟨sc_write_reference, ir_write_reference, fun xs M Q X h => False.elim h, ok_write_reference, bd_write_reference⟩
theorem S28 : StP P0 md 28 p_write_text := ⟨sc_write_text, ir_write_text, fun xs M Q X h => ln_write_text (X := X) h, ok_write_text, bd_write_text⟩
theorem S29 : StP P0 md 29 p_write_atom := ⟨sc_write_atom, ir_write_atom, fun xs M Q X h => False.elim h, ok_write_atom, bd_write_atom⟩
theorem S30 : StP P0 md 30 p_write_value := ⟨sc_write_value, ir_write_value, fun xs M Q X h => False.elim h, ok_write_value, bd_write_value⟩
theorem S31 : StP P0 md 31 p_write_weight := ⟨sc_write_weight, ir_write_weight, fun xs M Q X h => False.elim h, ok_write_weight, bd_write_weight⟩
theorem S32 : StP P0 md 32 p_write_weights := ⟨sc_write_weights, ir_write_weights, fun xs M Q X h => False.elim h, ok_write_weights, bd_write_weights⟩
theorem S33 : StP P0 md 33 p_write_send := ⟨sc_write_send, ir_write_send, fun xs M Q X h => False.elim h, ok_write_send, bd_write_send⟩
theorem S34 : StP P0 md 34 p_write_message := ⟨sc_write_message, ir_write_message, fun xs M Q X h => False.elim h, ok_write_message, bd_write_message⟩
theorem S35 : StP P0 md 35 p_write_target := ⟨sc_write_target, ir_write_target, fun xs M Q X h => False.elim h, ok_write_target, bd_write_target⟩
theorem S36 : StP P0 md 36 p_write_content := ⟨sc_write_content, ir_write_content, fun xs M Q X h => ln_wcBreak (X := X) h, ok_write_content, bd_write_content⟩
theorem S37 : StP P0 md 37 p_write_packet := ⟨sc_write_packet, ir_write_packet, fun xs M Q X h => ln_wpBreak (X := X) h, ok_write_packet, bd_write_packet⟩
theorem S38 : StP P0 md 38 p_write_acknowledgement := ⟨sc_write_acknowledgement, ir_write_acknowledgement, fun xs M Q X h => ln_write_acknowledgement (X := X) h, ok_write_acknowledgement, bd_write_acknowledgement⟩
theorem S39 : StP P0 md 39 p__law_cell := ⟨sc__law_cell, ir__law_cell, fun xs M Q X h => ln__law_cell (X := X) h, ok__law_cell, bd__law_cell⟩
theorem S40 : StP P0 md 40 p__law_digits := ⟨sc__law_digits, ir__law_digits, fun xs M Q X h => ln__law_digits (X := X) h, ok__law_digits, bd__law_digits⟩
theorem S41 : StP P0 md 41 p_law := ⟨sc_law, ir_law, fun xs M Q X h => ln_law (X := X) h, ok_law, bd_law⟩
theorem allS0 : AllD (StP P0 md) 0 md.ds := ⟨S0, S1, S2, S3, S4, S5, S6, S7, S8, S9, S10, S11, S12, S13, S14, S15, S16, S17, S18, S19, S20, S21, S22, S23, S24, S25, S26, S27, S28, S29, S30, S31, S32, S33, S34, S35, S36, S37, S38, S39, S40, S41, trivial⟩
end K52
open PySem PySem.W PySem.Calls PyProof.Rows
theorem PySem.Challenge.cw_vatlink_k52_frames_read_holds : PySem.Challenge.rw_vatlink_k52_frames_read.Holds := by
  w_on; o_law
  refine HandSHeadRun.head_any (r := OpenLaw.row PySem.Challenge.rw_vatlink_k52_frames_read) (q := view (OpenLaw.row PySem.Challenge.rw_vatlink_k52_frames_read).prog [60]) (H := L3.hookOf K52.md) (ob := L3.obOf K52.md) (M := 4000) (loose := K52.loose) (d := HandSHeadRun.topDef (OpenLaw.row PySem.Challenge.rw_vatlink_k52_frames_read).prog 60) (kwd := []) (L3.obOf_eq K52.md)
    (by kernel_rfl) (fun s => by kernel_rfl) K52.run (by kernel_rfl) (by kernel_rfl) (by kernel_rfl) (by rfl) (by first | assumption | decide +kernel) (by decide +kernel) ⟨rfl, rfl, rfl, rfl, rfl, by decide +kernel⟩ ?hw ?hc
  case hw => w_witness2
  case hc =>
    refine L3.hc3 (l := PySem.Challenge.rw_vatlink_k52_frames_read) (n := 63) (i := 41) (x := "_law_script") (P := K52.P0) (m := K52.md) (dl := K52.p_law) rfl (by decide) (by kernel_rfl) (by decide +kernel) (by decide +kernel) ⟨rfl, rfl, rfl, rfl, rfl⟩ K52.allS0 rfl rfl rfl (by kernel_rfl) ⟨rfl, by decide, by decide⟩ fun ns hn Q X q => ⟨ns, rfl, rfl, q⟩
end

import PyProof.Rows.All
import Wide.All
import OpenK.AllK
import Wide.FinOn
import KE.DataCmp
import KE.SortData
import HandS.ForMost
import HandS.Wide
import HandS.WideBits
import HandS.Flow
import HandS.Exc
import HandS.ExcInit
import HandS.ExcField
import HandS.ExcIs
import HandS.TryOnly
import HandS.TryMany
import HandS.IsInst
import HandS.Words
import HandS.WordsExc
import HandS.Defaults
import HandS.Deep
import HandS.TupAny
import HandS.RevRange
import HandS.Rev
import HandS.Zip
import HandS.TupSets
import HandS.Style
import KE.GoesEnum
import HandS.Conv
import HandS.SortKw
import KE.DatumOrd
import HandS.SetBool
import KE.KExcIs
import KE.KStateDown
import HandS.Head0
import HandS.Head1
import HandS.Head2
import HandS.HeadEnd
import HandS.HeadHook1
import HandS.HeadHook2
import PySem.Challenge.RW_underthree_k30_whole_first_answers
set_option Elab.async false
set_option linter.all false
set_option maxRecDepth 100000
/-! Uq, part a: the core language and its weakest preconditions. -/
namespace Uq
open PySem

abbrev D := PyData
/-- what is wanted of an exception: its class's number, its fields -/
abbrev Ex := Nat → List D → Prop
abbrev QD := D → Prop

inductive Bo | add | sub | mul | fdiv | mod | pow | shl | shr | band | bor
  deriving DecidableEq
inductive Co | lt | le | gt | ge | eq | ne
  deriving DecidableEq
inductive Bi | len | abs | int | bool | max | min | maxd | sum | tuple | list | sorted | any | all | str | bits | count | index | join | split | sset | lrng1 | lrng2 | divmod
  deriving DecidableEq
inductive Ty | int | bool | str | tuple | list | dict
  deriving DecidableEq
/-- what is walked: a value; a range (one, two bounds, a step back); enumerate; zip; reversed -/
inductive IK | val | rng1 | rng2 | rng3 | enum | zip | rev
  deriving DecidableEq
/-- a target: a slot; a tuple of slots -/
inductive Tg | nm (i : Nat) | tp (is : List Nat)
  deriving DecidableEq

/-- what is asked of a dict: is it in, its entry, its entry or another value -/
inductive Dq | mem (n : Bool) | get | getd
  deriving DecidableEq

/-- expressions -/
inductive C where
  | var (i : Nat) | non | bl (b : Bool) | int (i : Int) | str (x : Str)
  | bin (o : Bo) (a b : C) | neg (a : C) | not (a : C) | and (a b : C) | or (a b : C)
  | cmp (o : Co) (a b : C) | chn (o o' : Co) (a b c : C)
  | isN (n : Bool) (a : C) | isB (n b : Bool) (a : C) | mem (n : Bool) (a b : C)
  | ite (c a b : C) | tup (es : List C) | lst (es : List C)
  | ix (a b : C) | sl (a lo hi : C) | rev (a : C)
  | call (f : Nat) (pm : List Nat) (es : List C) | callv (f : Nat) (es : List C) | bi (f : Bi) (es : List C)
  | isi (a : C) (ts : List Ty)
  | lc (e : C) (t : Tg) (k : IK) (es : List C) (cd : List C)
  | xf (i : Nat) (f : Str) | xis (i : Nat) (c : Nat)
  | chn3 (o o' o2 : Co) (a b c d : C)
  | ixo (i : Nat) (b : C)
  | ssc (e : C) (t : Tg) (k : IK) (es : List C)
  | dq (o : Dq) (t : Bool) (es : List C) (i : Nat) (ds : List C)

/-- statements -/
inductive S where
  | asg (i : Nat) (e : C) | unp (is : List Nat) (e : C) | par (i j : Nat) (a b : C)
  | put (i : Nat) (a e : C) | app (i : Nat) (e : C) | ext (i : Nat) (e : C) | pop (i : Nat) | popA (i : Nat) (a : C) | popTo (j i : Nat)
  | aug (i : Nat) (o : Bo) (e : C)
  | exp (e : C) | ret (e : C) | retN
  | ite (c : C) (a b : List S)
  | fr (t : Tg) (k : IK) (es : List C) (body : List S)
  | wh (c : C) (body : List S)
  | brk | cnt | pas
  | rai (c : Nat) (es : List C)
  | tri (body : List S) (hc : List Nat) (hv : List (Option Nat)) (hb : List (List S))
  | kil (is : List Nat)
  | nnew (i : Nat) | napp (i : Nat) | nadd (i : Nat) (a e : C)
  | nlc (i : Nat) (e : C) (t : Tg) (k : IK) (es : List C) | nappE (i : Nat) (e : C)
  | dnew (i : Nat) (t : Bool) | dput (i : Nat) (t : Bool) (es : List C) (e : C)
  | popU (is : List Nat) (i : Nat)

/-- a slot's content: nothing known, a value, a list that this slot alone holds, a caught exception, a list of own lists, an own dict (keys: ints; tuples of ints if t) -/
inductive Sl where
  | no | va (d : D) | ol (ds : List D) | xc (c : Nat) (fs : List D) | nl (dss : List (List D)) | dc (t : Bool) (kvs : List (List Int × D))
abbrev Env := List Sl

def Sl.val? : Sl → Option D
  | .va d => some d
  | .ol ds => some (.list ds)
  | .nl dss => some (.list (dss.map .list))
  | _ => none
def Sl.frz : Sl → Sl
  | .ol ds => .va (.list ds)
  | .nl dss => .va (.list (dss.map .list))
  | .dc _ _ => .no
  | s => s
/-! no list within -/
mutual
def noL : D → Bool
  | .list _ => false
  | .dict _ => false
  | .tuple ds => noLs ds
  | _ => true
def noLs : List D → Bool
  | [] => true
  | d :: ds => noL d && noLs ds
end
def frzL : List Nat → Env → Env
  | [], ρ => ρ
  | i :: is, ρ => frzL is (ρ.modify i Sl.frz)

def tgI : Tg → List Nat
  | .nm i => [i]
  | .tp is => is
mutual
def nms : C → List Nat
  | .var i => [i]
  | .bin _ a b => nms a ++ nms b
  | .neg a => nms a
  | .not a => nms a
  | .and a b => nms a ++ nms b
  | .or a b => nms a ++ nms b
  | .cmp _ a b => nms a ++ nms b
  | .chn _ _ a b c => nms a ++ (nms b ++ nms c)
  | .isN _ a => nms a
  | .isB _ _ a => nms a
  | .mem _ a b => nms a ++ nms b
  | .ite c a b => nms c ++ (nms a ++ nms b)
  | .tup es => nmsL es
  | .lst es => nmsL es
  | .ix a b => nms a ++ nms b
  | .sl a b c => nms a ++ (nms b ++ nms c)
  | .rev a => nms a
  | .call _ _ es => nmsL es
  | .callv _ es => nmsL es
  | .bi _ es => nmsL es
  | .isi a _ => nms a
  | .lc e t _ es cd => nms e ++ (nmsL es ++ (nmsL cd ++ tgI t))
  | .xf i _ => [i]
  | .xis i _ => [i]
  | .chn3 _ _ _ a b c d => nms a ++ (nms b ++ (nms c ++ nms d))
  | .ssc e t _ es => nms e ++ (nmsL es ++ tgI t)
  | .dq _ _ es _ ds => nmsL es ++ nmsL ds
  | .ixo _ b => nms b
  | _ => []
def nmsL : List C → List Nat
  | [] => []
  | c :: cs => nms c ++ nmsL cs
end

/-- does it, if it gives a list, give a new one -/
def fresh : C → Bool
  | .lst _ => true
  | .lc .. => true
  | .sl .. => true
  | .rev _ => true
  | .bin .add _ _ => true
  | .bin .mul _ _ => true
  | .bi .list _ => true
  | .bi .sorted _ => true
  | .bi .sset _ => true
  | .bi .lrng1 _ => true
  | .bi .lrng2 _ => true
  | .bi .split _ => true
  | .ssc .. => true
  | .ite _ a b => fresh a && fresh b
  | _ => false

/-- behind the value d of e: the lists that d may share are no longer any slot's own -/
def shr (e : C) (d : D) (ρ : Env) : Env :=
  match fresh e, d with
  | true, .list ds => if noLs ds then ρ else frzL (nms e) ρ
  | _, _ => if noL d then ρ else frzL (nms e) ρ
def asgn (e : C) (i : Nat) (d : D) (ρ : Env) : Env :=
  match fresh e, d with
  | true, .list ds => (shr e d ρ).set i (.ol ds)
  | _, _ => (shr e d ρ).set i (.va d)

/-! ### values -/
def truR (d : D) (Q : Bool → Prop) : Prop :=
  match d with
  | .none => Q false
  | .bool b => Q b
  | .int i => Q (i != 0)
  | .str x => x.length ≤ sizeLine ∧ Q (x.length != 0)
  | .list ds => Q (!ds.isEmpty)
  | .tuple ds => Q (!ds.isEmpty)
  | .dict _ => False
def MulOk (i j : Int) : Prop := (-(2 ^ 64) < i ∧ i < 2 ^ 64) ∨ (-(2 ^ 64) < j ∧ j < 2 ^ 64) ∨ (i.natAbs.log2 + j.natAbs.log2 < 1000000)
def binR (o : Bo) (x y : D) (Q : QD) : Prop :=
  match o, x, y with
  | .add, .int i, .int j => Q (.int (i + j))
  | .add, .str a, .str b => a.length + b.length ≤ sizeLine ∧ Q (.str (a ++ b))
  | .add, .list a, .list b => a.length + b.length ≤ sizeLine ∧ Q (.list (a ++ b))
  | .add, .tuple a, .tuple b => a.length + b.length ≤ sizeLine ∧ Q (.tuple (a ++ b))
  | .sub, .int i, .int j => Q (.int (i - j))
  | .mul, .int i, .int j => MulOk i j ∧ Q (.int (i * j))
  | .mul, .list a, .int j => (-(2 ^ 63) ≤ j ∧ j < 2 ^ 63 ∧ a.length * j.toNat ≤ sizeLine) ∧ Q (.list (List.replicate j.toNat a).flatten)
  | .fdiv, .int i, .int j => (j ≠ 0 ∧ j.natAbs.log2 < 9000) ∧ Q (.int (i.fdiv j))
  | .mod, .int i, .int j => j ≠ 0 ∧ Q (.int (i.fmod j))
  | .pow, .int i, .int j => (0 ≤ j ∧ j ≤ 1000000 ∧ i.natAbs < 2 ^ 64) ∧ Q (.int (i ^ j.toNat))
  | .shl, .int i, .int j => (0 ≤ j ∧ j ≤ 1000000 ∧ i.natAbs < 2 ^ 64) ∧ Q (.int (i * 2 ^ j.toNat))
  | .shr, .int i, .int j => 0 ≤ j ∧ Q (.int (i / 2 ^ j.toNat))
  | .band, .int i, .int j => Q (.int (Builtin.bitAnd i j))
  | .bor, .int i, .int j => Q (.int (Builtin.bitOr i j))
  | _, _, _ => False
def LtOk (x y : D) : Prop := (W.alike x y = true ∧ x ≠ .none) ∧ SeqAt.shaped x = true ∧ SeqAt.shaped y = true
def EqOk (x y : D) : Prop := SeqAt.shaped x = true ∧ SeqAt.shaped y = true
def cmpR (o : Co) (x y : D) (Q : QD) : Prop :=
  match o, x, y with
  | .lt, .int i, .int j => Q (.bool (decide (i < j)))
  | .le, .int i, .int j => Q (.bool (decide (i ≤ j)))
  | .gt, .int i, .int j => Q (.bool (decide (j < i)))
  | .ge, .int i, .int j => Q (.bool (decide (j ≤ i)))
  | .eq, .int i, .int j => Q (.bool (decide (i = j)))
  | .ne, .int i, .int j => Q (.bool (!decide (i = j)))
  | .eq, .str i, .str j => Q (.bool (decide (i = j)))
  | .ne, .str i, .str j => Q (.bool (!decide (i = j)))
  | .eq, x, y => EqOk x y ∧ Q (.bool (PyData.eqv x y))
  | .ne, x, y => EqOk x y ∧ Q (.bool (!PyData.eqv x y))
  | .lt, x, y => LtOk x y ∧ Q (.bool (W.dataLt x y))
  | .gt, x, y => LtOk x y ∧ Q (.bool (W.dataLt y x))
  | .le, x, y => LtOk x y ∧ Q (.bool (!W.dataLt y x))
  | .ge, x, y => LtOk x y ∧ Q (.bool (!W.dataLt x y))
def signAt (x : Str) (k : Nat) : Str := ⟨#[x.cps.toList.getD k 0]⟩
def ixR (x i : D) (Q : QD) : Prop :=
  match x, i with
  | .list ds, .int j => ∃ d, L2.atI ds j = some d ∧ Q d
  | .tuple ds, .int j => ∃ d, L2.atI ds j = some d ∧ Q d
  | .dict kvs, .int j => ∃ d, L2.atI (kvs.map (·.2)) j = some d ∧ Q d
  | _, _ => False
def isNonC : C → Bool
  | .non => true
  | _ => false
/-- a part of a slice that may be left out -/
def wOpt (n : Bool) (w : QD → Prop) (k : Option Int → Prop) : Prop := if n = true then k none else w fun d => match d with
  | .int i => k (some i)
  | _ => False
/-- a slice -/
def cut (xs : List D) (lo hi : Option Int) : List D := (xs.drop (HT.sIx xs.length 0 lo)).take (HT.sIx xs.length xs.length hi - HT.sIx xs.length 0 lo)
def slR (x : D) (lo hi : Option Int) (Q : QD) : Prop :=
  match x with
  | .list ds => Q (.list (cut ds lo hi))
  | .tuple ds => Q (.tuple (cut ds lo hi))
  | _ => False
def revR (x : D) (Q : QD) : Prop :=
  match x with
  | .list ds => Q (.list ds.reverse)
  | .tuple ds => Q (.tuple ds.reverse)
  | _ => False
def isTy : Ty → D → Bool
  | .int, .int _ => true
  | .int, .bool _ => true
  | .bool, .bool _ => true
  | .str, .str _ => true
  | .tuple, .tuple _ => true
  | .list, .list _ => true
  | _, _ => false
def isNon : D → Bool
  | .none => true
  | _ => false
def isBv (b : Bool) : D → Bool
  | .bool c => c == b
  | _ => false
def opq : D → Bool
  | .dict _ => true
  | _ => false
/-- the script: a list that is only read -/
def lk (ns : List Int) : D := .dict (ns.map fun n => (.none, .int n))
def memR (x s : D) (Q : Bool → Prop) : Prop :=
  match x, s with
  | x, .list ds => (SeqAt.shaped x = true ∧ SeqAt.shaped (.list ds) = true) ∧ Q (ds.any fun d => PyData.eqv d x)
  | x, .tuple ds => (SeqAt.shaped x = true ∧ SeqAt.shaped (.tuple ds) = true) ∧ Q (ds.any fun d => PyData.eqv d x)
  | .str a, .str b => Q (!(Builtin.Str.occurrences b a 0 b.length 1).isEmpty)
  | _, _ => False
def ints? : List D → Option (List Int)
  | [] => some []
  | .int i :: ds => (ints? ds).map (i :: ·)
  | _ => none
def bools? : List D → Option (List Bool)
  | [] => some []
  | .bool i :: ds => (bools? ds).map (i :: ·)
  | _ => none
def upto (lo : Int) : Nat → List D
  | 0 => []
  | n + 1 => .int lo :: upto (lo + 1) n
def down (hi : Int) : Nat → List D
  | 0 => []
  | n + 1 => .int hi :: down (hi - 1) n
def enumF (i : Int) : List D → List D
  | [] => []
  | d :: ds => .tuple [.int i, d] :: enumF (i + 1) ds
def zipD : List D → List D → List D
  | a :: as, b :: bs => .tuple [a, b] :: zipD as bs
  | _, _ => []
def seq? : D → Option (List D)
  | .list ds => some ds
  | .tuple ds => some ds
  | _ => none
def itR (k : IK) (vs : List D) (Q : List D → Prop) : Prop :=
  match k, vs with
  | .val, [.list ds] => Q ds
  | .val, [.tuple ds] => Q ds
  | .val, [.dict kvs] => Q (kvs.map (·.2))
  | .rng1, [.int j] => (-(2 ^ 62) ≤ j ∧ j < 2 ^ 62) ∧ Q (upto 0 j.toNat)
  | .rng2, [.int i, .int j] => (-(2 ^ 62) ≤ i ∧ i < 2 ^ 62 ∧ -(2 ^ 62) ≤ j ∧ j < 2 ^ 62) ∧ Q (upto i (j - i).toNat)
  | .enum, [.list ds] => Q (enumF 0 ds)
  | .enum, [.tuple ds] => Q (enumF 0 ds)
  | _, _ => False
/-- a tuple of ints -/
def rowD (r : List Int) : D := .tuple (r.map PyData.int)
def biR (f : Bi) (vs : List D) (Q : QD) : Prop :=
  match f, vs with
  | .len, [.list ds] => Q (.int ds.length)
  | .len, [.tuple ds] => Q (.int ds.length)
  | .len, [.dict kvs] => Q (.int kvs.length)
  | .len, [.str x] => x.length ≤ sizeLine ∧ Q (.int x.length)
  | .abs, [.int i] => Q (.int (if i < 0 then -i else i))
  | .int, [.int i] => Q (.int i)
  | .int, [.bool b] => Q (.int (if b then 1 else 0))
  | .bool, [.int i] => Q (.bool (i != 0))
  | .bool, [.bool b] => Q (.bool b)
  | .max, [.int i, .int j] => Q (.int (if j > i then j else i))
  | .min, [.int i, .int j] => Q (.int (if j < i then j else i))
  | .max, [.list ds] => ∃ ns, ints? ds = some ns ∧ 0 < ns.length ∧ ∀ m, m ∈ ns → (∀ y, y ∈ ns → y ≤ m) → Q (.int m)
  | .min, [.list ds] => ∃ ns, ints? ds = some ns ∧ 0 < ns.length ∧ ∀ m, m ∈ ns → (∀ y, y ∈ ns → m ≤ y) → Q (.int m)
  | .tuple, [.list ds] => Q (.tuple ds)
  | .tuple, [.tuple ds] => Q (.tuple ds)
  | .list, [.list ds] => Q (.list ds)
  | .list, [.tuple ds] => Q (.list ds)
  | .any, [.list ds] => ∃ bs, bools? ds = some bs ∧ Q (.bool (bs.any id))
  | .all, [.list ds] => ∃ bs, bools? ds = some bs ∧ Q (.bool (bs.all id))
  | .sum, [.list ds] => ∃ ns, ints? ds = some ns ∧ Q (.int ns.sum)
  | .sorted, [.list ds] => (W.AllAlike ds ∧ W.Sortable ds ∧ ∀ d ∈ ds, SeqAt.shaped d = true) ∧ Q (.list (ds.mergeSort (W.dataLe false id)))
  | .sorted, [.tuple ds] => (W.AllAlike ds ∧ W.Sortable ds ∧ ∀ d ∈ ds, SeqAt.shaped d = true) ∧ Q (.list (ds.mergeSort (W.dataLe false id)))
  | .bits, [.int i] => Q (.int (Builtin.Int.intBits i))
  | .divmod, [.int i, .int j] => (0 < j ∧ j < 1073741824) ∧ Q (.tuple [.int (i / j), .int (i % j)])
  | .lrng1, [.int j] => (-(2 ^ 62) ≤ j ∧ j < 2 ^ 62 ∧ j.toNat ≤ sizeLine) ∧ Q (.list (upto 0 j.toNat))
  | .lrng2, [.int i, .int j] => (-(2 ^ 62) ≤ i ∧ i < 2 ^ 62 ∧ -(2 ^ 62) ≤ j ∧ j < 2 ^ 62 ∧ (j - i).toNat ≤ 2 ^ 24) ∧ Q (.list (upto i (j - i).toNat))
  | .maxd, [.list ds, .int d] => ∃ ns, ints? ds = some ns ∧ (ns = [] → Q (.int d)) ∧ ∀ m, m ∈ ns → (∀ y, y ∈ ns → y ≤ m) → Q (.int m)
  | .sset, [.list ds] => ∃ (rows : List (List Int)) (k : Nat) (B : Int), ds = rows.map rowD ∧ rows.length < 64 ∧ 1 ≤ k ∧ (∀ r ∈ rows, r.length = k ∧ TS.Bd B r) ∧
      ∀ out : List (List Int), out.Nodup → (∀ r, r ∈ out ↔ r ∈ rows) → out.Pairwise (fun q r => TS.code B q ≤ TS.code B r) → Q (.list (out.map rowD))
  | .sset, [.tuple ds] => ∃ (rows : List (List Int)) (k : Nat) (B : Int), ds = rows.map rowD ∧ rows.length < 64 ∧ 1 ≤ k ∧ (∀ r ∈ rows, r.length = k ∧ TS.Bd B r) ∧
      ∀ out : List (List Int), out.Nodup → (∀ r, r ∈ out ↔ r ∈ rows) → out.Pairwise (fun q r => TS.code B q ≤ TS.code B r) → Q (.list (out.map rowD))
  | _, _ => False

/-- the values in the parameters' order -/
def pmL (pm : List Nat) (vs : List D) : List D :=
  match pm with
  | [] => vs
  | _ => pm.map fun j => vs.getD j .none

/-! ### the weakest preconditions -/
structure Cl where
  call : Nat → List D → QD → Ex → Prop
  sub : Nat → Nat → Bool
  flds : Nat → List Str

def setL : List Nat → List D → Env → Option Env
  | [], [], ρ => some ρ
  | i :: is, d :: ds, ρ => setL is ds (ρ.set i (.va d))
  | _, _, _ => none
def tgR (t : Tg) (d : D) (ρ : Env) (Q : Env → Prop) : Prop :=
  match t with
  | .nm i => Q (ρ.set i (.va d))
  | .tp is => match d with
    | .tuple ds => match setL is ds ρ with
      | some ρ' => Q ρ'
      | none => False
    | _ => False
def kil : List Nat → Env → Env
  | [], ρ => ρ
  | i :: is, ρ => kil is (ρ.set i .no)
/-- what is shared by walking -/
def frzIt (k : IK) (es : List C) (ρ : Env) : Env :=
  match k with
  | .rng1 => ρ
  | .rng2 => ρ
  | .rng3 => ρ
  | _ => frzL (nmsL es) ρ
/-- an entry of a dict -/
def look (kvs : List (List Int × D)) (k : List Int) : Option D := (kvs.find? fun p => decide (p.1 = k)).map (·.2)
/-- .. put in its place, or at the end -/
def putD (kvs : List (List Int × D)) (k : List Int) (v : D) : List (List Int × D) := if (kvs.any fun p => decide (p.1 = k)) = true then kvs.map (fun p => if p.1 = k then (p.1, v) else p) else kvs ++ [(k, v)]
/-- what a dict answers -/
def dqR (o : Dq) (kvs : List (List Int × D)) (ns : List Int) (wd : (List D → Prop) → Prop) (Q : QD) : Prop := match o with
  | .mem n => Q (.bool ((look kvs ns).isSome != n))
  | .get => ∃ d, look kvs ns = some d ∧ Q d
  | .getd => wd fun xs => match xs with
    | [x] => noL x = true ∧ Q ((look kvs ns).getD x)
    | _ => False
/-- a set comprehension's turns: rows of ints -/
def ssW (el : Env → QD → Prop) (t : Tg) (ρ : Env) (n : Nat) (B : Int) : List D → List (List Int) → (List (List Int) → Prop) → Prop
  | [], rows, Q => Q rows
  | d :: ds, rows, Q => tgR t d ρ fun ρ' => el ρ' fun v => ∃ r, v = rowD r ∧ r.length = n ∧ TS.Bd B r ∧ rows.length + 1 < 64 ∧ ssW el t ρ n B ds (rows ++ [r]) Q
/-- the turns of a comprehension that makes lists -/
def nlW (el : Env → QD → Prop) (t : Tg) (ρ : Env) : List D → List (List D) → (List (List D) → Prop) → Prop
  | [], acc, Q => Q acc
  | d :: ds, acc, Q => tgR t d ρ fun ρ' => el ρ' fun v => match v with
    | .list xs => noLs xs = true ∧ acc.length < sizeLine ∧ nlW el t ρ ds (acc ++ [xs]) Q
    | _ => False
/-- a comprehension's turns -/
def lcW (tst : Env → (Bool → Prop) → Prop) (el : Env → QD → Prop) (t : Tg) (ρ : Env) : List D → List D → QD → Prop
  | [], acc, Q => Q (.list acc)
  | d :: ds, acc, Q => tgR t d ρ fun ρ' => tst ρ' fun b => if b = true then el ρ' (fun v => acc.length < sizeLine ∧ lcW tst el t ρ ds (acc ++ [v]) Q) else lcW tst el t ρ ds acc Q

mutual
def wE (X : Cl) : C → Env → QD → Ex → Prop
  | .var i, ρ, Q, _ => match ρ[i]? with
    | some (.va d) => Q d
    | some (.ol ds) => Q (.list ds)
    | some (.nl dss) => Q (.list (dss.map .list))
    | _ => False
  | .non, _, Q, _ => Q .none
  | .bl b, _, Q, _ => Q (.bool b)
  | .int i, _, Q, _ => Q (.int i)
  | .str x, _, Q, _ => Q (.str x)
  | .bin o a b, ρ, Q, E => wE X a ρ (fun x => wE X b ρ (fun y => binR o x y Q) E) E
  | .neg a, ρ, Q, E => wE X a ρ (fun x => match x with
    | .int i => Q (.int (-i))
    | _ => False) E
  | .not a, ρ, Q, E => wE X a ρ (fun x => truR x fun t => Q (.bool (!t))) E
  | .and a b, ρ, Q, E => wE X a ρ (fun x => truR x fun t => if t = true then wE X b ρ Q E else Q x) E
  | .or a b, ρ, Q, E => wE X a ρ (fun x => truR x fun t => if t = true then Q x else wE X b ρ Q E) E
  | .cmp o a b, ρ, Q, E => wE X a ρ (fun x => wE X b ρ (fun y => cmpR o x y Q) E) E
  | .chn o o' a b c, ρ, Q, E => wE X a ρ (fun x => wE X b ρ (fun y => cmpR o x y fun z => match z with
    | .bool k => if k = true then wE X c ρ (fun u => cmpR o' y u Q) E else Q (.bool false)
    | _ => False) E) E
  | .isN n a, ρ, Q, E => wE X a ρ (fun x => Q (.bool (isNon x != n))) E
  | .isB n b a, ρ, Q, E => wE X a ρ (fun x => Q (.bool (isBv b x != n))) E
  | .mem n a b, ρ, Q, E => wE X a ρ (fun x => wE X b ρ (fun y => memR x y fun k => Q (.bool (k != n))) E) E
  | .ite c a b, ρ, Q, E => wE X c ρ (fun x => truR x fun t => if t = true then wE X a ρ Q E else wE X b ρ Q E) E
  | .tup es, ρ, Q, E => wEs X es ρ (fun vs => Q (.tuple vs)) E
  | .lst es, ρ, Q, E => wEs X es ρ (fun vs => Q (.list vs)) E
  | .ix a b, ρ, Q, E => wE X a ρ (fun x => wE X b ρ (fun y => ixR x y Q) E) E
  | .sl a b c, ρ, Q, E => wE X a ρ (fun x => wOpt (isNonC b) (fun k => wE X b ρ k E) fun lo => wOpt (isNonC c) (fun k => wE X c ρ k E) fun hi => slR x lo hi Q) E
  | .rev a, ρ, Q, E => wE X a ρ (fun x => revR x Q) E
  | .call f pm es, ρ, Q, E => wEs X es ρ (fun vs => X.call f (pmL pm vs) Q E) E
  | .callv f es, ρ, Q, E => wEs X es ρ (fun vs => X.call f [.tuple vs] Q E) E
  | .bi f es, ρ, Q, E => wEs X es ρ (fun vs => biR f vs Q) E
  | .isi a ts, ρ, Q, E => wE X a ρ (fun x => opq x = false ∧ Q (.bool (ts.any fun t => isTy t x))) E
  | .lc e t k es cd, ρ, Q, E => wEs X es ρ (fun vs => itR k vs fun ds => lcW (fun ρ' q => wTs X cd ρ' q) (fun ρ' q => wE X e ρ' q fun _ _ => False) t (kil (tgI t) (frzIt k es ρ)) ds [] Q) E
  | .xf i f, ρ, Q, _ => match ρ[i]? with
    | some (.xc c fs) => ∃ d, ((X.flds c).zip fs).reverse.lookup f = some d ∧ Q d
    | _ => False
  | .xis i c, ρ, Q, _ => match ρ[i]? with
    | some (.xc c' _) => Q (.bool (X.sub c' c))
    | _ => False
  | .chn3 o o' o2 a b c d, ρ, Q, E => wE X a ρ (fun x => wE X b ρ (fun y => cmpR o x y fun z => match z with
    | .bool k => if k = true then wE X c ρ (fun u => cmpR o' y u fun z => match z with
      | .bool k => if k = true then wE X d ρ (fun v => cmpR o2 u v Q) E else Q (.bool false)
      | _ => False) E else Q (.bool false)
    | _ => False) E) E
  | .ixo i b, ρ, Q, E => match ρ[i]? with
    | some (.va d) => wE X b ρ (fun y => ixR d y Q) E
    | some (.ol ds) => wE X b ρ (fun y => ixR (.list ds) y Q) E
    | _ => False
  | .ssc e t k es, ρ, Q, E => wEs X es ρ (fun vs => itR k vs fun ds => ∃ n B, 1 ≤ n ∧ ssW (fun ρ' q => wE X e ρ' q fun _ _ => False) t (kil (tgI t) (frzIt k es ρ)) n B ds [] fun rows =>
      ∀ out : List (List Int), out.Nodup → (∀ r, r ∈ out ↔ r ∈ rows) → out.Pairwise (fun q r => TS.code B q ≤ TS.code B r) → Q (.list (out.map rowD))) E
  | .dq o t es i ds, ρ, Q, E => match ρ[i]? with
    | some (.dc t' kvs) => t' = t ∧ wEs X es ρ (fun vs => (t = false → vs.length = 1) ∧ ∃ ns, ints? vs = some ns ∧ dqR o kvs ns (fun q => wEs X ds ρ q E) Q) E
    | _ => False
def wEs (X : Cl) : List C → Env → (List D → Prop) → Ex → Prop
  | [], _, Q, _ => Q []
  | c :: cs, ρ, Q, E => wE X c ρ (fun v => wEs X cs ρ (fun vs => Q (v :: vs)) E) E
def wTs (X : Cl) : List C → Env → (Bool → Prop) → Prop
  | [], _, Q => Q true
  | c :: cs, ρ, Q => wE X c ρ (fun d => truR d fun t => if t = true then wTs X cs ρ Q else Q false) fun _ _ => False
end
/-- a test -/
abbrev wT (X : Cl) (c : C) (ρ : Env) (Q : Bool → Prop) (E : Ex) : Prop := wE X c ρ (fun d => truR d Q) E

structure K where
  nx : Env → Prop
  rt : QD
  bk : Env → Prop
  ct : Env → Prop
  ex : Nat → List D → Env → Prop
/-- a for's turns -/
def frW (body : Env → K → Prop) (t : Tg) (k : K) : List D → Env → Prop
  | [], ρ => k.nx ρ
  | d :: ds, ρ => tgR t d ρ fun ρ' => body ρ' { k with nx := frW body t k ds, ct := frW body t k ds, bk := k.nx }
/-- a while's turns, n at most -/
def whW (tst : Env → (Bool → Prop) → (Nat → List D → Env → Prop) → Prop) (body : Env → K → Prop) (k : K) : Nat → Env → Prop
  | 0, _ => False
  | n + 1, ρ => tst ρ (fun b => if b = true then body ρ { k with nx := whW tst body k n, ct := whW tst body k n, bk := k.nx } else k.nx ρ) k.ex
mutual
def wS (X : Cl) : S → Env → K → Prop
  | .asg i e, ρ, k => wE X e ρ (fun d => k.nx (asgn e i d ρ)) fun c fs => k.ex c fs ρ
  | .unp is e, ρ, k => wE X e ρ (fun d => match d with
    | .tuple ds => match setL is ds (shr e d ρ) with
      | some ρ' => k.nx ρ'
      | none => False
    | _ => False) fun c fs => k.ex c fs ρ
  | .par i j a b, ρ, k => wE X a ρ (fun x => wE X b ρ (fun y => k.nx (((frzL (nms a ++ nms b) ρ).set i (.va x)).set j (.va y))) fun c fs => k.ex c fs ρ) fun c fs => k.ex c fs ρ
  | .put i a e, ρ, k => wE X e ρ (fun d => match (shr e d ρ)[i]? with
    | some (.ol ds) => wE X a (shr e d ρ) (fun y => match y with
      | .int j => ∃ n, L2.ixN ds.length j = some n ∧ k.nx ((shr e d ρ).set i (.ol (ds.set n d)))
      | _ => False) fun c fs => k.ex c fs (shr e d ρ)
    | _ => False) fun c fs => k.ex c fs ρ
  | .app i e, ρ, k => (∃ ds, ρ[i]? = some (.ol ds)) ∧ wE X e ρ (fun d => match (shr e d ρ)[i]? with
    | some (.ol ds) => ds.length < sizeLine ∧ k.nx ((shr e d ρ).set i (.ol (ds ++ [d])))
    | _ => False) fun c fs => k.ex c fs ρ
  | .ext i e, ρ, k => (∃ ds, ρ[i]? = some (.ol ds)) ∧ wE X e ρ (fun d => match d, (shr e d ρ)[i]? with
    | .list es, some (.ol ds) => ds.length + es.length ≤ sizeLine ∧ k.nx ((shr e d ρ).set i (.ol (ds ++ es)))
    | _, _ => False) fun c fs => k.ex c fs ρ
  | .pop i, ρ, k => match ρ[i]? with
    | some (.ol ds) => ds ≠ [] ∧ k.nx (ρ.set i (.ol ds.dropLast))
    | _ => False
  | .popA i a, ρ, k => match ρ[i]? with
    | some (.ol ds) => wE X a ρ (fun y => match y with
      | .int j => ∃ n, L2.ixN ds.length j = some n ∧ ds.length ≤ sizeLine ∧ k.nx (ρ.set i (.ol (ds.eraseIdx n)))
      | _ => False) fun c fs => k.ex c fs ρ
    | _ => False
  | .popTo j i, ρ, k => match ρ[i]? with
    | some (.ol ds) => ∃ d, ds.getLast? = some d ∧ k.nx ((ρ.set i (.ol ds.dropLast)).set j (.va d))
    | _ => False
  | .aug i o e, ρ, k => match ρ[i]? with
    | some (.va x) => wE X e ρ (fun y => match x, y with
      | .int a, .int b => binR o x y fun z => k.nx (ρ.set i (.va z))
      | _, _ => False) fun c fs => k.ex c fs ρ
    | _ => False
  | .exp e, ρ, k => wE X e ρ (fun _ => k.nx ρ) fun c fs => k.ex c fs ρ
  | .ret e, ρ, k => wE X e ρ k.rt fun c fs => k.ex c fs ρ
  | .retN, _, k => k.rt .none
  | .ite c a b, ρ, k => wT X c ρ (fun t => if t = true then wSs X a ρ k else wSs X b ρ k) fun c fs => k.ex c fs ρ
  | .fr t ik es body, ρ, k => wEs X es ρ (fun vs => itR ik vs fun ds => frW (wSs X body) t k ds (frzIt ik es ρ)) fun c fs => k.ex c fs ρ
  | .wh c body, ρ, k => ∃ n, whW (fun ρ q e => wT X c ρ q fun c fs => e c fs ρ) (wSs X body) k n ρ
  | .brk, ρ, k => k.bk ρ
  | .cnt, ρ, k => k.ct ρ
  | .pas, ρ, k => k.nx ρ
  | .rai c es, ρ, k => wEs X es ρ (fun vs => noLs vs = true ∧ vs.length = (X.flds c).length ∧ k.ex c vs ρ) fun c fs => k.ex c fs ρ
  | .tri body hc hv hb, ρ, k => wSs X body ρ { k with ex := fun c fs ρ' => wHs X hc hv hb c fs ρ' k }
  | .kil is, ρ, k => k.nx (kil is ρ)
  | .nnew i, ρ, k => k.nx (ρ.set i (.nl []))
  | .napp i, ρ, k => match ρ[i]? with
    | some (.nl dss) => dss.length < sizeLine ∧ k.nx (ρ.set i (.nl (dss ++ [[]])))
    | _ => False
  | .nadd i a e, ρ, k => match ρ[i]? with
    | some (.nl dss) => wE X a ρ (fun y => match y with
      | .int j => ∃ n ds, L2.ixN dss.length j = some n ∧ dss[n]? = some ds ∧ ds.length < sizeLine ∧ wE X e ρ (fun d => noL d = true ∧ k.nx (ρ.set i (.nl (dss.set n (ds ++ [d]))))) fun c fs => k.ex c fs ρ
      | _ => False) fun c fs => k.ex c fs ρ
    | _ => False
  | .nlc i e t kd es, ρ, k => fresh e = true ∧ wEs X es ρ (fun vs => itR kd vs fun ds => nlW (fun ρ' q => wE X e ρ' q fun _ _ => False) t (kil (tgI t) (frzIt kd es ρ)) ds [] fun dss => k.nx ((frzIt kd es ρ).set i (.nl dss))) fun c fs => k.ex c fs ρ
  | .nappE i e, ρ, k => fresh e = true ∧ match ρ[i]? with
    | some (.nl dss) => wE X e ρ (fun d => match d with
      | .list ds => noLs ds = true ∧ dss.length < sizeLine ∧ k.nx (ρ.set i (.nl (dss ++ [ds])))
      | _ => False) fun c fs => k.ex c fs ρ
    | _ => False
  | .dnew i t, ρ, k => k.nx (ρ.set i (.dc t []))
  | .dput i t es e, ρ, k => wE X e ρ (fun d => noL d = true ∧ match ρ[i]? with
    | some (.dc t' kvs) => t' = t ∧ wEs X es ρ (fun vs => (t = false → vs.length = 1) ∧ ∃ ns, ints? vs = some ns ∧ kvs.length < sizeLine ∧ k.nx (ρ.set i (.dc t (putD kvs ns d)))) fun c fs => k.ex c fs ρ
    | _ => False) fun c fs => k.ex c fs ρ
  | .popU is i, ρ, k => match ρ[i]? with
    | some (.ol ds) => ∃ d, ds.getLast? = some d ∧ match d with
      | .tuple xs => match setL is xs (ρ.set i (.ol ds.dropLast)) with
        | some ρ' => k.nx ρ'
        | none => False
      | _ => False
    | _ => False
def wSs (X : Cl) : List S → Env → K → Prop
  | [], ρ, k => k.nx ρ
  | s :: ss, ρ, k => wS X s ρ { k with nx := fun ρ' => wSs X ss ρ' k }
def wHs (X : Cl) (hc : List Nat) (hv : List (Option Nat)) : List (List S) → Nat → List D → Env → K → Prop
  | [], c, fs, ρ, k => k.ex c fs ρ
  | b :: bs, c, fs, ρ, k => match hc, hv with
    | h :: hc', v :: hv' => if X.sub c h = true then (match v with
      | some v => wSs X b (ρ.set v (.xc c fs)) { nx := fun ρ' => k.nx (ρ'.set v .no), rt := k.rt, bk := fun ρ' => k.bk (ρ'.set v .no), ct := fun ρ' => k.ct (ρ'.set v .no), ex := fun _ _ _ => False }
      | none => wSs X b ρ { k with ex := fun _ _ _ => False })
      else wHs X hc' hv' bs c fs ρ k
    | _, _ => False
end

/-- a function: its parameters, its slots, its body -/
structure Fn where
  np : Nat
  ns : Nat
  body : List S
def start (f : Fn) (vs : List D) : Env := vs.map Sl.va ++ List.replicate (f.ns - f.np) Sl.no
/-- the program's functions, to a depth of calls -/
def wC (T : Nat → Option Fn) (sub : Nat → Nat → Bool) (flds : Nat → List Str) : Nat → Nat → List D → QD → Ex → Prop
  | 0, _, _, _, _ => False
  | n + 1, f, vs, Q, E => match T f with
    | some fn => vs.length = fn.np ∧ wSs ⟨wC T sub flds n, sub, flds⟩ fn.body (start fn vs) ⟨fun _ => Q .none, Q, fun _ => False, fun _ => False, fun c fs _ => E c fs⟩
    | none => False
end Uq

/-! Uq, part b: does a core term stand for an expression, a statement of the program. -/
namespace Uq
open PySem

/-- what a text's names mean: N the slots' names; functions by name, their parameters; exception classes by name; the shapes of calls by keywords -/
structure Cf where
  N : List Str
  fnI : Str → Option Nat
  prm : Nat → List Str
  xcI : Str → Option Nat
  shp : Nat → List (Nat × List Str)
  rz : List Nat
  fvI : Str → Option Nat := fun _ => none

def isL (sc : Scope) (x : Str) : Bool := match sc.names.lookup x with
  | some .local => true
  | some .cell => true
  | some .free => true
  | _ => false
def isSt (sc : Scope) (x : Str) : Bool := match sc.names.lookup x with
  | some .local => true
  | some .cell => true
  | _ => false
def isG (sc : Scope) (x : Str) : Bool := match sc.names.lookup x with
  | some .globalImplicit => true
  | _ => false
def opB : Bo → Operator → Bool
  | .add, .Add => true
  | .sub, .Sub => true
  | .mul, .Mult => true
  | .fdiv, .FloorDiv => true
  | .mod, .Mod => true
  | .pow, .Pow => true
  | .shl, .LShift => true
  | .shr, .RShift => true
  | .band, .BitAnd => true
  | .bor, .BitOr => true
  | _, _ => false
def opC : Co → CmpOp → Bool
  | .lt, .Lt => true
  | .le, .LtE => true
  | .gt, .Gt => true
  | .ge, .GtE => true
  | .eq, .Eq => true
  | .ne, .NotEq => true
  | _, _ => false
/-- a built-in's name -/
def biN : Bi → Option Str
  | .len => some "len"
  | .abs => some "abs"
  | .int => some "int"
  | .bool => some "bool"
  | .max => some "max"
  | .min => some "min"
  | .sum => some "sum"
  | .tuple => some "tuple"
  | .list => some "list"
  | .sorted => some "sorted"
  | .any => some "any"
  | .all => some "all"
  | .str => some "str"
  | .divmod => some "divmod"
  | _ => none
def tyN : Ty → Str
  | .int => "int"
  | .bool => "bool"
  | .str => "str"
  | .tuple => "tuple"
  | .list => "list"
  | .dict => "dict"
def ikN : IK → Option (Str × Nat)
  | .rng1 => some ("range", 1)
  | .rng2 => some ("range", 2)
  | .enum => some ("enumerate", 1)
  | _ => none
def nameIs (e : Expr) (x : Str) : Bool := match e with
  | .Name y _ => decide (y = x)
  | _ => false
def chkTys (sc : Scope) : List Ty → List Expr → Bool
  | [], [] => true
  | t :: ts, e :: es => nameIs e (tyN t) && isG sc (tyN t) && chkTys sc ts es
  | _, _ => false
/-- the values' places, in the parameters' order -/
def pmOf (ps : List Str) (n : Nat) (ks : List Str) : List Nat := (List.range ps.length).map fun j => if j < n then j else n + ks.idxOf (ps.getD j Str.empty)
def kwNames (kws : List Keyword) : List Str := kws.map fun k => k.arg.getD Str.empty
def tgNames (t : Tg) (e : Expr) : List (Str × Nat) :=
  match t, e with
  | .nm i, .Name x _ => [(x, i)]
  | .tp is, .Tuple es _ _ => (es.zip is).map fun p => match p.1 with
    | .Name x _ => (x, p.2)
    | _ => (Str.empty, p.2)
  | _, _ => []
def chkNm (cf : Cf) (osc : Scope) (i : Nat) (e : Expr) : Bool := match e with
  | .Name x _ => decide (cf.N[i]? = some x) && isSt osc x
  | _ => false
def chkNms (cf : Cf) (osc : Scope) : List Nat → List Expr → Bool
  | [], [] => true
  | i :: is, e :: es => chkNm cf osc i e && chkNms cf osc is es
  | _, _ => false
/-- osc: the written scope (where names are stored) -/
def chkTg (cf : Cf) (osc : Scope) (t : Tg) (e : Expr) : Bool :=
  match t, e with
  | .nm i, e => chkNm cf osc i e
  | .tp is, .Tuple es _ _ => chkNms cf osc is es && decide (2 ≤ is.length) && decide (is.length ≤ 20)
  | _, _ => false

/-- no set display, no star, no slice -/
def okE : Expr → Bool
  | .Set .. => false
  | .Starred .. => false
  | .Slice .. => false
  | _ => true
theorem okE_marks {e : Expr} {op : CmpOp} (h : okE e = true) : behindInMarks op e = false := by cases e <;> first | rfl | cases h
theorem okE_star {e : Expr} {es : List Expr} {env : PySem.Env} (h : okE e = true) : starEach (e :: es) env = (false, eval e env) :: starEach es env := by cases e <;> first | rfl | cases h
theorem okE_ix {e : Expr} (h : okE e = true) : L2.PlainIx e := fun _ _ => by cases e <;> first | rfl | cases h
theorem okE_fold {e : Expr} {env : PySem.Env} (h : okE e = true) : ∀ x, foldedSetIterable e env x = pure x := fun _ => by cases e <;> first | rfl | cases h

/-! the forms, one by one: ka, kb .. look at the parts -/
section
variable (cf : Cf) (sc : Scope)
def mVar (i : Nat) (e : Expr) : Bool := match e with
  | .Name x _ => decide (cf.N[i]? = some x) && isL sc x && !decide (x = "__debug__") && !decide (x = "__classdict__")
  | _ => false
def mNon (e : Expr) : Bool := match e with
  | .Constant .none _ _ => true
  | _ => false
def mBl (b : Bool) (e : Expr) : Bool := match e with
  | .Constant (.bool c) _ _ => decide (b = c)
  | _ => false
def mInt (i : Int) (e : Expr) : Bool := match e with
  | .Constant (.int j) _ _ => decide (i = j)
  | _ => false
def mStr (x : Str) (e : Expr) : Bool := match e with
  | .Constant (.str y) _ _ => decide (x = y)
  | _ => false
def mBin (o : Bo) (ka kb : Expr → Bool) (e : Expr) : Bool := match e with
  | .BinOp a o' b _ => opB o o' && (ka a && kb b)
  | _ => false
def mNeg (ka : Expr → Bool) (e : Expr) : Bool := match e with
  | .UnaryOp .USub a _ => ka a
  | _ => false
def mNot (ka : Expr → Bool) (e : Expr) : Bool := match e with
  | .UnaryOp .Not a _ => ka a
  | _ => false
def mRest (op : BoolOp) (kb : Expr → Bool) (y : Expr) (r : List Expr) (p : Pos) : Bool := match r with
  | [] => kb y
  | _ => kb (.BoolOp op (y :: r) p)
def mAnd (ka kb : Expr → Bool) (e : Expr) : Bool := match e with
  | .BoolOp .And (x :: y :: r) p => ka x && mRest .And kb y r p
  | _ => false
def mOr (ka kb : Expr → Bool) (e : Expr) : Bool := match e with
  | .BoolOp .Or (x :: y :: r) p => ka x && mRest .Or kb y r p
  | _ => false
def mCmp (o : Co) (ka kb : Expr → Bool) (e : Expr) : Bool := match e with
  | .Compare a [o'] [b] _ => opC o o' && (ka a && kb b)
  | _ => false
def mChn (o p : Co) (ka kb kc : Expr → Bool) (e : Expr) : Bool := match e with
  | .Compare a [o', p'] [b, c] _ => opC o o' && (opC p p' && (ka a && (kb b && (kc c && okE c))))
  | _ => false
def isOp (n : Bool) (o : CmpOp) : Bool := match o with
  | .Is => !n
  | .IsNot => n
  | _ => false
def inOp (n : Bool) (o : CmpOp) : Bool := match o with
  | .In => !n
  | .NotIn => n
  | _ => false
def mIsN (n : Bool) (ka : Expr → Bool) (e : Expr) : Bool := match e with
  | .Compare a [o] [.Constant .none _ _] _ => isOp n o && ka a
  | _ => false
def mIsB (n b : Bool) (ka : Expr → Bool) (e : Expr) : Bool := match e with
  | .Compare a [o] [.Constant (.bool c) _ _] _ => decide (b = c) && (isOp n o && ka a)
  | _ => false
def mMem (n : Bool) (ka kb : Expr → Bool) (e : Expr) : Bool := match e with
  | .Compare a [o] [b] _ => inOp n o && (ka a && (kb b && okE b))
  | _ => false
def mIte (kc ka kb : Expr → Bool) (e : Expr) : Bool := match e with
  | .IfExp c a b _ => kc c && (ka a && kb b)
  | _ => false
def mTup (n : Nat) (ks : List Expr → Bool) (e : Expr) : Bool := match e with
  | .Tuple es _ _ => ks es && decide (n ≤ 1000)
  | _ => false
def mLst (n : Nat) (ks : List Expr → Bool) (e : Expr) : Bool := match e with
  | .List es _ => ks es && decide (n ≤ 1000)
  | _ => false
def mIx (ka kb : Expr → Bool) (e : Expr) : Bool := match e with
  | .Subscript a b _ => okE b && (ka a && kb b)
  | _ => false
def mOpt (n : Bool) (ka : Expr → Bool) (e : Option Expr) : Bool := match e with
  | none => n
  | some a => ka a && !n
/-- an element of what a name holds -/
def mIxo (i : Nat) (kb : Expr → Bool) (e : Expr) : Bool := match e with
  | .Subscript (.Name x _) b _ => okE b && (kb b && (decide (cf.N[i]? = some x) && (isL sc x && (!decide (x = "__debug__") && !decide (x = "__classdict__")))))
  | _ => false
def mSl (nb nc : Bool) (ka kb kc : Expr → Bool) (e : Expr) : Bool := match e with
  | .Subscript a (.Slice b c none _) _ => ka a && (mOpt nb kb b && mOpt nc kc c)
  | _ => false
def mRev (ka : Expr → Bool) (e : Expr) : Bool := match e with
  | .Subscript a (.Slice none none (some (.UnaryOp .USub (.Constant (.int 1) _ _) _)) _) _ => ka a
  | _ => false
/-- how the values stand to the parameters -/
def mShape (f : Nat) (pm : List Nat) (n m : Nat) (as : List Expr) (kws : List Keyword) : Bool := match pm, kws with
  | [], [] => decide (n = (cf.prm f).length)
  | [], _ => false
  | pm, kws => decide (pm = pmOf (cf.prm f) as.length (kwNames kws)) && decide ((as.length, kwNames kws) ∈ cf.shp f)
def mCall (f : Nat) (pm : List Nat) (n : Nat) (ks : List Expr → Bool) (e : Expr) : Bool := match e with
  | .Call (.Name x _) as kws _ => decide (cf.fnI x = some f) && (isG sc x && (!decide (x = "__debug__") && (ks (as ++ kws.map (·.value)) && ((kws.all fun k => k.arg.isSome) && mShape cf f pm n 0 as kws))))
  | _ => false
/-- f(a, ..) of a def f( *xs) -/
def mCallV (f : Nat) (n : Nat) (ks : List Expr → Bool) (e : Expr) : Bool := match e with
  | .Call (.Name x _) as [] _ => decide (cf.fvI x = some f) && (isG sc x && (!decide (x = "__debug__") && (decide (n ≤ 1000) && ks as)))
  | _ => false
def mIn (x y : Str) (ks : List Expr → Bool) (e : Expr) : Bool := match e with
  | .Call (.Name x' _) [.Call (.Name y' _) as [] p1] [] p2 => decide (x' = x) && (decide (y' = y) && (isG sc x && (isG sc y && ks as)))
  | _ => false
def mDef (x k : Str) (ks : List Expr → Bool) (e : Expr) : Bool := match e with
  | .Call (.Name x' _) [a] [⟨some k', d, _⟩] _ => decide (x' = x) && (decide (k' = k) && (isG sc x && ks [a, d]))
  | _ => false
/-- x.m(..) -/
def mMeth (m : Str) (ks : List Expr → Bool) (e : Expr) : Bool := match e with
  | .Call (.Attribute o m' ap) as [] cp => decide (m' = m) && (ks (o :: as) && (ap.endLine == cp.line))
  | _ => false
/-- x.bit_length() -/
def notCall0 (e : Expr) : Bool := match e with
  | .Call (.Name _ _) [] [] _ => false
  | _ => true
def mBits (ks : List Expr → Bool) (e : Expr) : Bool := match e with
  | .Call (.Attribute o m' ap) [] [] cp => decide (m' = "bit_length") && (ks [o] && ((ap.endLine == cp.line) && notCall0 o))
  | _ => false
def mBi0 (f : Bi) (ks : List Expr → Bool) (e : Expr) : Bool := match e with
  | .Call (.Name x _) as [] _ => decide (biN f = some x) && (isG sc x && ks as)
  | _ => false
def mBi (f : Bi) (n : Nat) (ks : List Expr → Bool) (e : Expr) : Bool := match f with
  | .sset => mIn sc "sorted" "set" ks e && decide (n = 1)
  | .lrng1 => false
  | .lrng2 => mIn sc "list" "range" ks e && decide (n = 2)
  | .maxd => mDef sc "max" "default" ks e && decide (n = 2)
  | .bits => mBits ks e
  | .count => false
  | .index => false
  | .join => false
  | .split => false
  | .str => false
  | f => mBi0 sc f ks e
def mTys (ts : List Ty) (t : Expr) : Bool := match ts, t with
  | [t], .Name y _ => decide (y = tyN t) && isG sc (tyN t)
  | ts, .Tuple es _ _ => chkTys sc ts es && decide (ts.length ≤ 10)
  | _, _ => false
def mIsi (ts : List Ty) (ka : Expr → Bool) (e : Expr) : Bool := match e with
  | .Call (.Name x _) [a, t] [] _ => decide (x = "isinstance") && (isG sc x && (okE a && (ka a && mTys sc ts t)))
  | _ => false
/-- enumerate gives pairs -/
def enTp (k : IK) (t : Tg) : Bool := match k, t with
  | .enum, .nm _ => false
  | _, _ => true
/-- what is walked -/
def mIt (k : IK) (ks : List Expr → Bool) (it : Expr) : Bool := match k, it with
  | .val, it => ks [it]
  | k, .Call (.Name x _) as [] _ => decide (ikN k = some (x, as.length)) && (isG sc x && ks as)
  | _, _ => false
def mLc (t : Tg) (k : IK) (n : Nat) (ke : Scope → Expr → Bool) (ks : List Expr → Bool) (kd : Scope → List Expr → Bool) (e : Expr) : Bool := match e with
  | .ListComp e' [⟨tg, it, ifs, ia⟩] osc _ => decide (ia = 0) && (enTp k t && (ke (L2.relS osc sc) e' && (chkTg cf osc t tg && (L2.blkC cf.N sc osc (tgNames t tg) && (kd (L2.relS osc sc) ifs && (decide (n ≤ 1) && (mIt sc k ks it && okE it)))))))
  | _ => false
def mXf (i : Nat) (f : Str) (e : Expr) : Bool := match e with
  | .Attribute (.Name x _) g _ => decide (cf.N[i]? = some x) && (isL sc x && (decide (f = g) && (!decide (x = "__debug__") && !decide (x = "__classdict__"))))
  | _ => false
def mXis (i c : Nat) (e : Expr) : Bool := match e with
  | .Call (.Name x _) [.Name y _, .Name z _] [] _ => decide (x = "isinstance") && (isG sc x && (decide (cf.N[i]? = some y) && (isL sc y && ((decide (cf.xcI z = some c) || (decide (z = "ValueError") && decide (c = 1000))) && (isG sc z && (!decide (z = "__debug__") && (!decide (y = "__debug__") && !decide (y = "__classdict__"))))))))
  | _ => false
def mChn3 (o p r : Co) (ka kb kc kd : Expr → Bool) (e : Expr) : Bool := match e with
  | .Compare a [o', p', r'] [b, c, d] _ => opC o o' && (opC p p' && (opC r r' && (ka a && (kb b && (kc c && (okE c && (kd d && okE d)))))))
  | _ => false
/-- sorted({e for t in it}) -/
def mSsc (t : Tg) (k : IK) (ke : Scope → Expr → Bool) (ks : List Expr → Bool) (e : Expr) : Bool := match e with
  | .Call (.Name x _) [.SetComp e' [⟨tg, it, [], ia⟩] osc _] [] _ => decide (x = "sorted") && (isG sc x && (decide (ia = 0) && (enTp k t && (ke (L2.relS osc sc) e' && (chkTg cf osc t tg && (L2.blkC cf.N sc osc (tgNames t tg) && (mIt sc k ks it && okE it)))))))
  | _ => false
def mNm (i : Nat) (e : Expr) : Bool := match e with
  | .Name x _ => decide (cf.N[i]? = some x) && (isL sc x && (!decide (x = "__debug__") && !decide (x = "__classdict__")))
  | _ => false
/-- a dict's key: one value, or a tuple as it is written -/
def mKey (t : Bool) (n : Nat) (ks : List Expr → Bool) (e : Expr) : Bool := match t, e with
  | true, .Tuple es _ _ => ks es && decide (n ≤ 1000)
  | false, e => ks [e] && decide (n = 1)
  | _, _ => false
def mDq (o : Dq) (t : Bool) (i n m : Nat) (ks kd : List Expr → Bool) (e : Expr) : Bool := match o, e with
  | .mem b, .Compare a [op] [d] _ => inOp b op && (mKey t n ks a && (mNm cf sc i d && okE a))
  | .get, .Subscript d a _ => mNm cf sc i d && (mKey t n ks a && okE a)
  | .getd, .Call (.Attribute d g ap) [a, v] [] cp => decide (g = "get") && (mNm cf sc i d && (mKey t n ks a && (okE a && (kd [v] && (decide (m = 1) && (ap.endLine == cp.line))))))
  | _, _ => false
def mCons (k : Expr → Bool) (ks : List Expr → Bool) (es : List Expr) : Bool := match es with
  | e :: es => k e && (okE e && ks es)
  | [] => false
end

mutual
def chkE (cf : Cf) : C → Scope → Expr → Bool
  | .var i, sc, e => mVar cf sc i e
  | .non, _, e => mNon e
  | .bl b, _, e => mBl b e
  | .int i, _, e => mInt i e
  | .str x, _, e => mStr x e
  | .bin o a b, sc, e => mBin o (chkE cf a sc) (chkE cf b sc) e
  | .neg a, sc, e => mNeg (chkE cf a sc) e
  | .not a, sc, e => mNot (chkE cf a sc) e
  | .and a b, sc, e => mAnd (chkE cf a sc) (chkE cf b sc) e
  | .or a b, sc, e => mOr (chkE cf a sc) (chkE cf b sc) e
  | .cmp o a b, sc, e => mCmp o (chkE cf a sc) (chkE cf b sc) e
  | .chn o p a b c, sc, e => mChn o p (chkE cf a sc) (chkE cf b sc) (chkE cf c sc) e
  | .isN n a, sc, e => mIsN n (chkE cf a sc) e
  | .isB n b a, sc, e => mIsB n b (chkE cf a sc) e
  | .mem n a b, sc, e => mMem n (chkE cf a sc) (chkE cf b sc) e
  | .ite c a b, sc, e => mIte (chkE cf c sc) (chkE cf a sc) (chkE cf b sc) e
  | .tup es, sc, e => mTup es.length (chkEs cf es sc) e
  | .lst es, sc, e => mLst es.length (chkEs cf es sc) e
  | .ix a b, sc, e => mIx (chkE cf a sc) (chkE cf b sc) e
  | .sl a b c, sc, e => mSl (isNonC b) (isNonC c) (chkE cf a sc) (chkE cf b sc) (chkE cf c sc) e
  | .rev a, sc, e => mRev (chkE cf a sc) e
  | .call f pm es, sc, e => mCall cf sc f pm es.length (chkEs cf es sc) e
  | .callv f es, sc, e => mCallV cf sc f es.length (chkEs cf es sc) e
  | .bi f es, sc, e => mBi sc f es.length (chkEs cf es sc) e
  | .isi a ts, sc, e => mIsi sc ts (chkE cf a sc) e
  | .lc e t k es cd, sc, x => mLc cf sc t k cd.length (fun sc' y => chkE cf e sc' y) (chkEs cf es sc) (fun sc' l => chkEs cf cd sc' l) x
  | .xf i f, sc, e => mXf cf sc i f e
  | .xis i c, sc, e => mXis cf sc i c e
  | .chn3 o p r a b c d, sc, e => mChn3 o p r (chkE cf a sc) (chkE cf b sc) (chkE cf c sc) (chkE cf d sc) e
  | .ixo i b, sc, e => mIxo cf sc i (chkE cf b sc) e
  | .ssc e t k es, sc, x => mSsc cf sc t k (fun sc' y => chkE cf e sc' y) (chkEs cf es sc) x
  | .dq o t es i ds, sc, e => mDq cf sc o t i es.length ds.length (chkEs cf es sc) (chkEs cf ds sc) e
def chkEs (cf : Cf) : List C → Scope → List Expr → Bool
  | [], _, es => es.isEmpty
  | c :: cs, sc, es => mCons (chkE cf c sc) (chkEs cf cs sc) es
end

def isComp : C → Bool
  | .lc .. => true
  | _ => false
/-- no comprehension, no tuple display -/
def plainV : Expr → Bool
  | .ListComp .. => false
  | .SetComp .. => false
  | .DictComp .. => false
  | _ => true
def isLC : Expr → Bool
  | .ListComp .. => true
  | _ => false
def notTup : Expr → Bool
  | .Tuple .. => false
  | e => plainV e
/-- a, b = .., .. : the stores are swapped -/
def parSw (px py : Pos) (a b : Expr) : Bool := (px.line == py.line) && ((!foldedForSure 8 a || !foldedForSure 8 b) && (!constantsAlone 8 a || !constantsAlone 8 b))

section
variable (cf : Cf) (sc : Scope)
def nAsg (i : Nat) (e : C) (st : Stmt) : Bool := match st with
  | .Assign [.Name x p] e' _ => chkNm cf sc i (.Name x p) && ((plainV e' || isLC e') && chkE cf e sc e')
  | _ => false
def nUnp (is : List Nat) (e : C) (st : Stmt) : Bool := match st with
  | .Assign [.Tuple es _ _] e' _ => chkNms cf sc is es && (decide (2 ≤ is.length) && (decide (is.length ≤ 20) && (chkE cf e sc e' && notTup e')))
  | _ => false
def nPar (i j : Nat) (a b : C) (st : Stmt) : Bool := match st with
  | .Assign [.Tuple [.Name x px, .Name y py] _ _] (.Tuple [a', b'] _ _) _ => decide (cf.N[i]? = some x) && (decide (cf.N[j]? = some y) && (!decide (i = j) && (decide (sc.names.lookup x = some .local) && (decide (sc.names.lookup y = some .local) &&
      (chkE cf a sc a' && (okE a' && (chkE cf b sc b' && (okE b' && (parSw px py a' b' && !decide (x = y))))))))))
  | _ => false
def nmV (i : Nat) (x : Str) : Bool := decide (cf.N[i]? = some x) && (isL sc x && (!decide (x = "__debug__") && !decide (x = "__classdict__")))
def nPut (i : Nat) (a e : C) (st : Stmt) : Bool := match st with
  | .Assign [.Subscript (.Name x _) a' _] e' _ => nmV cf sc i x && (chkE cf a sc a' && (okE a' && (chkE cf e sc e' && notTup e')))
  | _ => false
/-- x = [] of a list of own lists -/
def nNnew (i : Nat) (st : Stmt) : Bool := match st with
  | .Assign [.Name x p] e' _ => chkNm cf sc i (.Name x p) && (plainV e' && chkE cf (.lst []) sc e')
  | _ => false
/-- x[a].append(e) -/
def nNadd (i : Nat) (a e : C) (st : Stmt) : Bool := match st with
  | .Expr (.Call (.Attribute (.Subscript (.Name x _) a' _) m' ap) as [] cp) _ => nmV cf sc i x && (decide (m' = "append") && (chkE cf a sc a' && (okE a' && (chkEs cf [e] sc as && (ap.endLine == cp.line)))))
  | _ => false
/-- x.m(..) as a statement -/
def nMeth (i : Nat) (m : Str) (ks : List Expr → Bool) (st : Stmt) : Bool := match st with
  | .Expr (.Call (.Attribute (.Name x _) m' ap) as [] cp) _ => nmV cf sc i x && (decide (m' = m) && (ks as && (ap.endLine == cp.line)))
  | _ => false
def nPopTo (j i : Nat) (st : Stmt) : Bool := match st with
  | .Assign [.Name y p] (.Call (.Attribute (.Name x _) m ap) [] [] cp) _ => nmV cf sc i x && (decide (m = "pop") && (chkNm cf sc j (.Name y p) && (ap.endLine == cp.line)))
  | _ => false
/-- x = [e for t in it], a list of own lists -/
def nNlc (i : Nat) (t : Tg) (k : IK) (ke : Scope → Expr → Bool) (ks : List Expr → Bool) (st : Stmt) : Bool := match st with
  | .Assign [.Name x p] (.ListComp e' [⟨tg, it, [], ia⟩] osc q) _ => chkNm cf sc i (.Name x p) && (decide (sc.names.lookup x = some .local) && ((p.line == q.line) && (!(osc.names.any fun y => y.1 == x && (y.2 == .local || y.2 == .cell)) && (decide (ia = 0) && (enTp k t && (ke (L2.relS osc sc) e' && (chkTg cf osc t tg && (L2.blkC cf.N sc osc (tgNames t tg) && (mIt sc k ks it && okE it)))))))))
  | _ => false
def nDnew (i : Nat) (st : Stmt) : Bool := match st with
  | .Assign [.Name x p] (.Dict [] [] _) _ => chkNm cf sc i (.Name x p)
  | _ => false
def nDput (i : Nat) (t : Bool) (es : List C) (e : C) (st : Stmt) : Bool := match st with
  | .Assign [.Subscript (.Name x _) a _] e' _ => nmV cf sc i x && (mKey t es.length (chkEs cf es sc) a && (okE a && (chkE cf e sc e' && notTup e')))
  | _ => false
def nPopU (is : List Nat) (i : Nat) (st : Stmt) : Bool := match st with
  | .Assign [.Tuple es _ _] (.Call (.Attribute (.Name x _) m ap) [] [] cp) _ => nmV cf sc i x && (decide (m = "pop") && (chkNms cf sc is es && (decide (2 ≤ is.length) && (decide (is.length ≤ 20) && (ap.endLine == cp.line)))))
  | _ => false
def nAug (i : Nat) (o : Bo) (e : C) (st : Stmt) : Bool := match st with
  | .AugAssign (.Name x p) o' e' _ => chkNm cf sc i (.Name x p) && (opB o o' && (chkE cf e sc e' && (decide (o = .add) || decide (o = .sub))))
  | _ => false
def nExp (e : C) (st : Stmt) : Bool := match st with
  | .Expr e' _ => chkE cf e sc e' && notTup e'
  | _ => false
def nRet (e : C) (st : Stmt) : Bool := match st with
  | .Return (some e') _ => chkE cf e sc e'
  | _ => false
def nRetN (st : Stmt) : Bool := match st with
  | .Return none _ => true
  | _ => false
def nIte (c : C) (ka kb : List Stmt → Bool) (st : Stmt) : Bool := match st with
  | .If c' a b _ => chkE cf c sc c' && (ka a && kb b)
  | _ => false
def nFr (t : Tg) (k : IK) (es : List C) (kb : List Stmt → Bool) (st : Stmt) : Bool := match st with
  | .For tg it body [] _ => chkTg cf sc t tg && (enTp k t && (kb body && (mIt sc k (chkEs cf es sc) it && okE it)))
  | _ => false
def nWh (c : C) (kb : List Stmt → Bool) (st : Stmt) : Bool := match st with
  | .While c' body [] _ => chkE cf c sc c' && kb body
  | _ => false
def nBrk (st : Stmt) : Bool := match st with
  | .Break _ => true
  | _ => false
def nCnt (st : Stmt) : Bool := match st with
  | .Continue _ => true
  | _ => false
def nPas (st : Stmt) : Bool := match st with
  | .Pass _ => true
  | _ => false
def nRai (c : Nat) (es : List C) (st : Stmt) : Bool := match st with
  | .Raise (some (.Call (.Name x _) (a :: as) [] _)) none _ => decide (cf.xcI x = some c) && (isG sc x && (chkEs cf es sc (a :: as) && (decide (es.length ≤ 10) && (decide (c ∈ cf.rz) && !decide (x = "__debug__")))))
  | _ => false
def nTri (n : Nat) (kb : List Stmt → Bool) (kh : List ExceptHandler → Bool) (st : Stmt) : Bool := match st with
  | .Try body hs [] [] _ => kb body && (kh hs && decide (1 ≤ n))
  | _ => false
def nHd (hc : List Nat) (hv : List (Option Nat)) (kb : List Stmt → Bool) (kh : List Nat → List (Option Nat) → List ExceptHandler → Bool) (hs : List ExceptHandler) : Bool := match hc, hv, hs with
  | c :: hc', none :: hv', .ExceptHandler (some (.Name x _)) none st _ :: hs => decide (cf.xcI x = some c) && (isG sc x && (!decide (x = "__debug__") && (kb st && (kh hc' hv' hs && !st.isEmpty))))
  | c :: hc', some v :: hv', .ExceptHandler (some (.Name x _)) (some n) st _ :: hs => decide (cf.xcI x = some c) && (isG sc x && (decide (cf.N[v]? = some n) && (decide (sc.names.lookup n = some .local) && (!decide (x = "__debug__") && (kb st && (kh hc' hv' hs && !st.isEmpty))))))
  | _, _, _ => false
def nCons (k : Stmt → Bool) (ks : List Stmt → Bool) (sts : List Stmt) : Bool := match sts with
  | st :: sts => k st && ks sts
  | [] => false
end
/-- what a suite behind an except may hold -/
def hotC : C → Bool
  | .var _ => true
  | .non => true
  | .bl _ => true
  | .int _ => true
  | .str _ => true
  | .not a => hotC a
  | .neg a => hotC a
  | .and a b => hotC a && hotC b
  | .or a b => hotC a && hotC b
  | .cmp _ a b => hotC a && hotC b
  | .isN _ a => hotC a
  | .isB _ _ a => hotC a
  | .tup es => hotCs es
  | .xf _ _ => true
  | .xis _ _ => true
  | _ => false
where hotCs : List C → Bool
  | [] => true
  | c :: cs => hotC c && hotCs cs
def hotS : S → Bool
  | .asg _ e => hotC e
  | .ret e => hotC e
  | .ite c a b => hotC c && (hotSs a && hotSs b)
  | .pas => true
  | .brk => true
  | .cnt => true
  | .kil _ => true
  | _ => false
where hotSs : List S → Bool
  | [] => true
  | c :: cs => hotS c && hotSs cs
abbrev hotSs := hotS.hotSs
def isKil : S → Bool
  | .kil _ => true
  | _ => false

mutual
def chkS (cf : Cf) (sc : Scope) : S → Stmt → Bool
  | .asg i e, st => nAsg cf sc i e st
  | .unp is e, st => nUnp cf sc is e st
  | .par i j a b, st => nPar cf sc i j a b st
  | .put i a e, st => nPut cf sc i a e st
  | .app i e, st => nMeth cf sc i "append" (chkEs cf [e] sc) st
  | .ext i e, st => nMeth cf sc i "extend" (chkEs cf [e] sc) st
  | .pop i, st => nMeth cf sc i "pop" (chkEs cf [] sc) st
  | .popA i a, st => nMeth cf sc i "pop" (chkEs cf [a] sc) st
  | .popTo j i, st => nPopTo cf sc j i st
  | .aug i o e, st => nAug cf sc i o e st
  | .exp e, st => nExp cf sc e st
  | .ret e, st => nRet cf sc e st
  | .retN, st => nRetN st
  | .ite c a b, st => nIte cf sc c (chkSs cf sc a) (chkSs cf sc b) st
  | .fr t k es body, st => nFr cf sc t k es (chkSs cf sc body) st
  | .wh c body, st => nWh cf sc c (chkSs cf sc body) st
  | .brk, st => nBrk st
  | .cnt, st => nCnt st
  | .pas, st => nPas st
  | .rai c es, st => nRai cf sc c es st
  | .tri body hc hv hb, st => nTri hb.length (chkSs cf sc body) (fun hs => chkHs cf sc hb hc hv hs) st
  | .kil _, _ => false
  | .nnew i, st => nNnew cf sc i st
  | .napp i, st => nMeth cf sc i "append" (chkEs cf [.lst []] sc) st
  | .nadd i a e, st => nNadd cf sc i a e st
  | .nlc i e t k es, st => nNlc cf sc i t k (fun sc' y => chkE cf e sc' y) (chkEs cf es sc) st
  | .nappE i e, st => nMeth cf sc i "append" (chkEs cf [e] sc) st
  | .dnew i _, st => nDnew cf sc i st
  | .dput i t es e, st => nDput cf sc i t es e st
  | .popU is i, st => nPopU cf sc is i st
def chkSs (cf : Cf) (sc : Scope) : List S → List Stmt → Bool
  | [], sts => sts.isEmpty
  | s :: ss, sts => if isKil s = true then chkSs cf sc ss sts else nCons (chkS cf sc s) (chkSs cf sc ss) sts
def chkHs (cf : Cf) (sc : Scope) : List (List S) → List Nat → List (Option Nat) → List ExceptHandler → Bool
  | [], hc, hv, hs => hs.isEmpty && (hc.isEmpty && hv.isEmpty)
  | b :: bs, hc, hv, hs => nHd cf sc hc hv (fun st => hotSs b && chkSs cf sc b st) (fun hc hv hs => chkHs cf sc bs hc hv hs) hs
end
/-- a def is as its function says -/
def chkF (cf : Cf) (f : Nat) (fn : Fn) (x : Str) (st : Stmt) : Bool := match st with
  | .FunctionDef y a body _ _ _ sc _ _ _ => decide (y = x) && (decide (a.args.map (·.arg) = cf.prm f) && (a.posonlyargs.isEmpty && (a.vararg.isNone && (a.kwonlyargs.isEmpty && (a.kwarg.isNone && (a.defaults.isEmpty && (decide (fn.np = (cf.prm f).length) &&
      (decide (fn.ns = cf.N.length) && (decide (cf.N.take fn.np = cf.prm f) && (decide cf.N.Nodup && (decide (sc.kind = .function) && (!sc.isCoroutine && (!sc.isGenerator && ((cf.prm f).all (fun p => isSt sc p) && ((sc.names.all fun y => !decide (y.2 = .free)) && chkSs cf sc fn.body body)))))))))))))))
  | _ => false
end Uq

set_option maxHeartbeats 1000000
/-! Uq, part c: how our data lie in the hand layer's heap. -/
namespace Uq
open PySem PySem.Spec PyProof.Rows L2

/-- a list that is only read: locked, or one of the written part -/
def LkL (K : PySem.W.Frag) (H : Hp) (a : Addr) (xs : List V) : Prop :=
  (∃ o, H a = some (.frz o (.lst xs))) ∨
    ∃ (o : Obj) (its : Array Value) (n : Nat), K.lookup a = some o ∧ o.cls = .type "list" ∧ o.dict = none ∧ o.data = .seq its n ∧ its.size ≤ sizeLine ∧ Vals xs its.toList
theorem LkL.sq {K : PySem.W.Frag} {H : Hp} {a : Addr} {xs : List V} (h : LkL K H a xs) : SqL K H a xs := by
  rcases h with ⟨o, h⟩ | h
  · exact .inl (.inr ⟨o, h⟩)
  · exact .inr h

mutual
/-- the value v stands for the data d: tuples as they stand; lists at addresses that S lets -/
def Rp (K : PySem.W.Frag) (S : Addr → Prop) (H : Hp) : D → V → Prop
  | .none, v => v = .non
  | .bool b, v => v = .bl b
  | .int i, v => v = .int i
  | .str x, v => v = .str x
  | .list ds, v => ∃ a xs, v = .ref a ∧ S a ∧ H a = some (.lst xs) ∧ Rps K S H ds xs
  | .tuple ds, v => ∃ a xs, v = .ref a ∧ SqT K H a xs ∧ Rps K S H ds xs
  | .dict kvs, v => ∃ (a : Addr) (ns : List Int), v = .ref a ∧ LkL K H a (ns.map V.int) ∧ kvs = ns.map fun n => (.none, .int n)
def Rps (K : PySem.W.Frag) (S : Addr → Prop) (H : Hp) : List D → List V → Prop
  | [], vs => vs = []
  | d :: ds, vs => ∃ v r, vs = v :: r ∧ Rp K S H d v ∧ Rps K S H ds r
end

section
variable {K : PySem.W.Frag} {S S' : Addr → Prop} {H H' : Hp}
/-- what may change: lists, dicts -/
def Mu (o : HO) : Prop := (∃ xs, o = .lst xs) ∨ (∃ kvs, o = .dK kvs) ∨ (∃ kvs, o = .dT kvs)
abbrev Mo := { o : HO // Mu o }
abbrev moL (xs : List V) : Mo := ⟨.lst xs, .inl ⟨xs, rfl⟩⟩
theorem mu_tup {xs : List V} : ∀ m : Mo, HO.tup xs ≠ m.1 := fun m e => by
  rcases m with ⟨o, ⟨_, rfl⟩ | ⟨_, rfl⟩ | ⟨_, rfl⟩⟩ <;> cases e
theorem mu_frz {o : Obj} {u : HO} : ∀ m : Mo, HO.frz o u ≠ m.1 := fun m e => by
  rcases m with ⟨o, ⟨_, rfl⟩ | ⟨_, rfl⟩ | ⟨_, rfl⟩⟩ <;> cases e
theorem mu_xd {xs : List (Str × V)} : ∀ m : Mo, HO.xd xs ≠ m.1 := fun m e => by
  rcases m with ⟨o, ⟨_, rfl⟩ | ⟨_, rfl⟩ | ⟨_, rfl⟩⟩ <;> cases e
/-- what is kept: all but the lists and dicts that S does not let -/
def Kp (S : Addr → Prop) (H H' : Hp) : Prop := ∀ a o, H a = some o → (S a ∨ ∀ m : Mo, o ≠ m.1) → H' a = some o
theorem Kp.of_same (h : Same H H') : Kp S H H' := fun a o e _ => h a o e
theorem Kp.sqT (k : Kp S H H') {a : Addr} {xs : List V} (h : SqT K H a xs) : SqT K H' a xs := by
  rcases h with h | h
  · rcases h with h | ⟨o, h⟩
    · exact .inl (.inl (k a _ h (.inr mu_tup)))
    · exact .inl (.inr ⟨o, k a _ h (.inr mu_frz)⟩)
  · exact .inr h
theorem Kp.lkL (k : Kp S H H') {a : Addr} {xs : List V} (h : LkL K H a xs) : LkL K H' a xs := by
  rcases h with ⟨o, h⟩ | h
  · exact .inl ⟨o, k a _ h (.inr mu_frz)⟩
  · exact .inr h
mutual
theorem Rp.mono (hS : ∀ a o, H a = some o → S a → S' a) (k : Kp S H H') : ∀ (d : D) (v : V), Rp K S H d v → Rp K S' H' d v
  | .none, v, h => by simp only [Rp] at h ⊢; exact h
  | .bool b, v, h => by simp only [Rp] at h ⊢; exact h
  | .int i, v, h => by simp only [Rp] at h ⊢; exact h
  | .str x, v, h => by simp only [Rp] at h ⊢; exact h
  | .list ds, v, h => by
    simp only [Rp] at h ⊢
    obtain ⟨a, xs, e, sa, ha, r⟩ := h
    exact ⟨a, xs, e, hS a _ ha sa, k a _ ha (.inl sa), Rps.mono hS k ds xs r⟩
  | .tuple ds, v, h => by
    simp only [Rp] at h ⊢
    obtain ⟨a, xs, e, ha, r⟩ := h
    exact ⟨a, xs, e, k.sqT ha, Rps.mono hS k ds xs r⟩
  | .dict kvs, v, h => by
    simp only [Rp] at h ⊢
    obtain ⟨a, xs, e, ha, r⟩ := h
    exact ⟨a, xs, e, k.lkL ha, r⟩
theorem Rps.mono (hS : ∀ a o, H a = some o → S a → S' a) (k : Kp S H H') : ∀ (ds : List D) (vs : List V), Rps K S H ds vs → Rps K S' H' ds vs
  | [], vs, h => by simp only [Rps] at h ⊢; exact h
  | d :: ds, vs, h => by
    simp only [Rps] at h ⊢
    obtain ⟨v, r, e, h1, h2⟩ := h
    exact ⟨v, r, e, Rp.mono hS k d v h1, Rps.mono hS k ds r h2⟩
end
theorem Rp.same (s : Same H H') {d : D} {v : V} (h : Rp K S H d v) : Rp K S H' d v := Rp.mono (fun _ _ _ h => h) (.of_same s) d v h
theorem Rps.same (s : Same H H') {d : List D} {v : List V} (h : Rps K S H d v) : Rps K S H' d v := Rps.mono (fun _ _ _ h => h) (.of_same s) d v h
theorem Rp.wide (hS : ∀ a o, H a = some o → S a → S' a) {d : D} {v : V} (h : Rp K S H d v) : Rp K S' H d v := Rp.mono hS (.of_same (Same.refl H)) d v h
theorem Rps.wide (hS : ∀ a o, H a = some o → S a → S' a) {d : List D} {v : List V} (h : Rps K S H d v) : Rps K S' H d v := Rps.mono hS (.of_same (Same.refl H)) d v h

mutual
/-- data without lists do not lean on S -/
theorem Rp.noL : ∀ (d : D) (v : V), noL d = true → Rp K S H d v → Rp K S' H d v
  | .none, v, _, h => by simp only [Rp] at h ⊢; exact h
  | .bool b, v, _, h => by simp only [Rp] at h ⊢; exact h
  | .int i, v, _, h => by simp only [Rp] at h ⊢; exact h
  | .str x, v, _, h => by simp only [Rp] at h ⊢; exact h
  | .list ds, v, n, h => by simp only [Uq.noL] at n; cases n
  | .tuple ds, v, n, h => by
    simp only [Rp] at h ⊢
    simp only [Uq.noL] at n
    obtain ⟨a, xs, e, ha, r⟩ := h
    exact ⟨a, xs, e, ha, Rps.noL ds xs n r⟩
  | .dict kvs, v, n, h => by simp only [Uq.noL] at n; cases n
theorem Rps.noL : ∀ (ds : List D) (vs : List V), noLs ds = true → Rps K S H ds vs → Rps K S' H ds vs
  | [], vs, _, h => by simp only [Rps] at h ⊢; exact h
  | d :: ds, vs, n, h => by
    simp only [Rps] at h ⊢
    simp only [noLs, Bool.and_eq_true] at n
    obtain ⟨v, r, e, h1, h2⟩ := h
    exact ⟨v, r, e, Rp.noL d v n.1 h1, Rps.noL ds r n.2 h2⟩
end

theorem Rps.length : ∀ {ds : List D} {vs : List V}, Rps K S H ds vs → ds.length = vs.length
  | [], vs, h => by simp only [Rps] at h; subst h; rfl
  | d :: ds, vs, h => by
    simp only [Rps] at h
    obtain ⟨v, r, e, h1, h2⟩ := h
    subst e
    simp [Rps.length h2]
theorem Rps.get : ∀ {ds : List D} {vs : List V} {i : Nat} {d : D}, Rps K S H ds vs → ds[i]? = some d → ∃ v, vs[i]? = some v ∧ Rp K S H d v
  | [], vs, i, d, h, e => by simp at e
  | c :: ds, vs, i, d, h, e => by
    simp only [Rps] at h
    obtain ⟨v, r, rfl, h1, h2⟩ := h
    cases i with
    | zero => simp at e; subst e; exact ⟨v, rfl, h1⟩
    | succ i =>
      obtain ⟨w, e1, e2⟩ := Rps.get (i := i) h2 (by simpa using e)
      exact ⟨w, by simpa using e1, e2⟩
theorem Rps.getV : ∀ {ds : List D} {vs : List V} {i : Nat} {v : V}, Rps K S H ds vs → vs[i]? = some v → ∃ d, ds[i]? = some d ∧ Rp K S H d v := fun {ds vs i v} h e => by
  have hl := h.length
  have hi : i < ds.length := by
    rw [hl]
    exact (List.getElem?_eq_some_iff.mp e).1
  obtain ⟨w, e1, e2⟩ := h.get (d := ds[i]) (List.getElem?_eq_getElem hi)
  rw [e] at e1
  cases e1
  exact ⟨_, List.getElem?_eq_getElem hi, e2⟩
theorem Rps.append : ∀ {ds es : List D} {vs us : List V}, Rps K S H ds vs → Rps K S H es us → Rps K S H (ds ++ es) (vs ++ us)
  | [], es, vs, us, h, g => by simp only [Rps] at h; subst h; exact g
  | d :: ds, es, vs, us, h, g => by
    simp only [Rps] at h
    obtain ⟨v, r, rfl, h1, h2⟩ := h
    show Rps K S H (d :: (ds ++ es)) (v :: (r ++ us))
    simp only [Rps]
    exact ⟨v, _, rfl, h1, Rps.append h2 g⟩
theorem Rps.one {d : D} {v : V} (h : Rp K S H d v) : Rps K S H [d] [v] := by
  simp only [Rps]; exact ⟨v, [], rfl, h, rfl⟩
theorem Rps.cons {d : D} {v : V} {ds : List D} {vs : List V} (h : Rp K S H d v) (g : Rps K S H ds vs) : Rps K S H (d :: ds) (v :: vs) := by
  simp only [Rps]; exact ⟨v, vs, rfl, h, g⟩
theorem Rps.nil : Rps K S H [] [] := by simp only [Rps]
theorem Rps.take : ∀ {ds : List D} {vs : List V} (n : Nat), Rps K S H ds vs → Rps K S H (ds.take n) (vs.take n)
  | ds, vs, 0, h => by simp only [List.take_zero, Rps]
  | [], vs, n + 1, h => by simp only [Rps] at h; subst h; simp only [List.take_nil, Rps]
  | d :: ds, vs, n + 1, h => by
    simp only [Rps] at h
    obtain ⟨v, r, rfl, h1, h2⟩ := h
    exact .cons h1 (Rps.take n h2)
theorem Rps.drop : ∀ {ds : List D} {vs : List V} (n : Nat), Rps K S H ds vs → Rps K S H (ds.drop n) (vs.drop n)
  | ds, vs, 0, h => h
  | [], vs, n + 1, h => by simp only [Rps] at h; subst h; simp only [List.drop_nil, Rps]
  | d :: ds, vs, n + 1, h => by
    simp only [Rps] at h
    obtain ⟨v, r, rfl, h1, h2⟩ := h
    exact Rps.drop n h2
theorem Rps.cut {ds : List D} {vs : List V} {lo hi : Option Int} (h : Rps K S H ds vs) : Rps K S H (Uq.cut ds lo hi) (cutV vs lo hi) := by
  unfold Uq.cut cutV
  rw [← h.length]
  exact (h.drop _).take _
theorem Rps.rev : ∀ {ds : List D} {vs : List V}, Rps K S H ds vs → Rps K S H ds.reverse vs.reverse
  | [], vs, h => by simp only [Rps] at h; subst h; exact .nil
  | d :: ds, vs, h => by
    simp only [Rps] at h
    obtain ⟨v, r, rfl, h1, h2⟩ := h
    rw [List.reverse_cons, List.reverse_cons]
    exact (Rps.rev h2).append (.one h1)
theorem Rps.set : ∀ {ds : List D} {vs : List V} {d : D} {v : V} (i : Nat), Rp K S H d v → Rps K S H ds vs → Rps K S H (ds.set i d) (vs.set i v)
  | [], vs, d, v, i, g, h => by simp only [Rps] at h; subst h; exact .nil
  | c :: ds, vs, d, v, i, g, h => by
    simp only [Rps] at h
    obtain ⟨w, r, rfl, h1, h2⟩ := h
    cases i with
    | zero => exact .cons g h2
    | succ i => exact .cons h1 (Rps.set i g h2)
theorem Rps.dropLast {ds : List D} {vs : List V} (h : Rps K S H ds vs) : Rps K S H ds.dropLast vs.dropLast := by
  rw [List.dropLast_eq_take, List.dropLast_eq_take, h.length]
  exact h.take _
theorem Rps.eraseIdx : ∀ {ds : List D} {vs : List V} (i : Nat), Rps K S H ds vs → Rps K S H (ds.eraseIdx i) (vs.eraseIdx i)
  | [], vs, i, h => by simp only [Rps] at h; subst h; exact .nil
  | c :: ds, vs, i, h => by
    simp only [Rps] at h
    obtain ⟨w, r, rfl, h1, h2⟩ := h
    cases i with
    | zero => exact h2
    | succ i => exact .cons h1 (Rps.eraseIdx i h2)
theorem Rps.rep {ds : List D} {vs : List V} (h : Rps K S H ds vs) : ∀ n : Nat, Rps K S H (List.replicate n ds).flatten (List.replicate n vs).flatten
  | 0 => .nil
  | n + 1 => by
    rw [List.replicate_succ, List.replicate_succ, List.flatten_cons, List.flatten_cons]
    exact h.append (h.rep n)
theorem Rps.atI {ds : List D} {vs : List V} {i : Int} {d : D} (h : Rps K S H ds vs) (e : atI ds i = some d) : ∃ v, L2.atI vs i = some v ∧ Rp K S H d v := by
  unfold L2.atI at e ⊢
  rw [← h.length]
  cases q : ixN ds.length i with
  | none => rw [q] at e; cases e
  | some j =>
    rw [q] at e
    exact h.get e

mutual
/-- as the library's data -/
theorem Rp.dp : ∀ (d : D) (v : V), Rp K S H d v → SeqAt.shaped d = true → Dp K H v d
  | .none, v, h, _ => by simp only [Rp] at h; subst h; exact .non
  | .bool b, v, h, _ => by simp only [Rp] at h; subst h; exact .bl b
  | .int i, v, h, _ => by simp only [Rp] at h; subst h; exact .int i
  | .str x, v, h, _ => by simp only [Rp] at h; subst h; exact .str x
  | .list ds, v, h, s => by
    simp only [Rp] at h
    obtain ⟨a, xs, rfl, _, ha, r⟩ := h
    have s' := SeqAt.canLay_of_shaped s
    simp only [PyData.canLay0] at s'
    exact .lst (SqL.of ha) (Rps.dp ds xs r s')
  | .tuple ds, v, h, s => by
    simp only [Rp] at h
    obtain ⟨a, xs, rfl, ha, r⟩ := h
    have s' := SeqAt.canLay_of_shaped s
    simp only [PyData.canLay0] at s'
    exact .tup ha (Rps.dp ds xs r s')
  | .dict kvs, v, h, s => by
    have s' := SeqAt.canLay_of_shaped s
    simp only [PyData.canLay0] at s'
    cases s'
theorem Rps.dp : ∀ (ds : List D) (vs : List V), Rps K S H ds vs → PyData.canLayAll0 ds = true → DpAll K H vs ds
  | [], vs, h, _ => by simp only [Rps] at h; subst h; exact .nil
  | d :: ds, vs, h, s => by
    simp only [Rps] at h
    obtain ⟨v, r, rfl, h1, h2⟩ := h
    simp only [PyData.canLayAll0, Bool.and_eq_true] at s
    exact .cons (Rp.dp0 d v h1 s.1) (Rps.dp ds r h2 s.2)
theorem Rp.dp0 : ∀ (d : D) (v : V), Rp K S H d v → d.canLay0 = true → Dp K H v d
  | .none, v, h, _ => by simp only [Rp] at h; subst h; exact .non
  | .bool b, v, h, _ => by simp only [Rp] at h; subst h; exact .bl b
  | .int i, v, h, _ => by simp only [Rp] at h; subst h; exact .int i
  | .str x, v, h, _ => by simp only [Rp] at h; subst h; exact .str x
  | .list ds, v, h, s => by
    simp only [Rp] at h
    obtain ⟨a, xs, rfl, _, ha, r⟩ := h
    simp only [PyData.canLay0] at s
    exact .lst (SqL.of ha) (Rps.dp ds xs r s)
  | .tuple ds, v, h, s => by
    simp only [Rp] at h
    obtain ⟨a, xs, rfl, ha, r⟩ := h
    simp only [PyData.canLay0] at s
    exact .tup ha (Rps.dp ds xs r s)
  | .dict kvs, v, h, s => by
    simp only [PyData.canLay0] at s
    cases s
end
end

/-- a value's result: if it is a new list, at a new address that nothing else knows -/
def Res (K : PySem.W.Frag) (S : Addr → Prop) (H H' : Hp) (fr : Bool) (d : D) (v : V) : Prop :=
  Rp K S H' d v ∧ (fr = true → ∀ ds, d = .list ds → ∃ a vs, v = .ref a ∧ H a = none ∧ H' a = some (.lst vs) ∧ Rps K (fun b => S b ∧ b ≠ a) H' ds vs)
end Uq

set_option maxHeartbeats 1000000
/-! Uq, part d: operators by data. -/
namespace Uq
open PySem PySem.Spec PyProof.Rows L2
section
variable {K : PySem.W.Frag} {S : Addr → Prop} {H : Hp}
theorem same_upd {p : Addr} {o : HO} (h : H p = none) : Same H (upd H p o) := fun b u e => by rw [upd_ne (ne_of_none e h)]; exact e
/-- a new list -/
theorem new_lst {ds : List D} {xs : List V} {p : Addr} (h : Rps K S H ds xs) (hp : H p = none) (sp : S p) : Res K S H (upd H p (.lst xs)) true (.list ds) (.ref p) := by
  have r : Rps K (fun b => S b ∧ b ≠ p) (upd H p (.lst xs)) ds xs := Rps.mono (fun a o e sa => ⟨sa, ne_of_none e hp⟩) (.of_same (same_upd hp)) ds xs h
  refine ⟨?_, fun _ es e => ?_⟩
  · simp only [Rp]
    exact ⟨p, xs, rfl, sp, upd_same, Rps.wide (fun _ _ _ q => q.1) r⟩
  · cases e
    exact ⟨p, xs, rfl, hp, upd_same, r⟩
theorem new_tup {ds : List D} {xs : List V} {p : Addr} (h : Rps K S H ds xs) (hp : H p = none) : Rp K S (upd H p (.tup xs)) (.tuple ds) (.ref p) := by
  simp only [Rp]
  exact ⟨p, xs, rfl, SqT.of upd_same, h.same (same_upd hp)⟩
theorem res_of {H' : Hp} {d : D} {v : V} {fr : Bool} (h : Rp K S H' d v) (n : ∀ ds, d ≠ .list ds) : Res K S H H' fr d v := ⟨h, fun _ ds e => absurd e (n ds)⟩
theorem res_int {H' : Hp} {i : Int} {fr : Bool} : Res K S H H' fr (.int i) (.int i) := res_of (by simp only [Rp]) fun _ e => by cases e
theorem res_bl {H' : Hp} {i : Bool} {fr : Bool} : Res K S H H' fr (.bool i) (.bl i) := res_of (by simp only [Rp]) fun _ e => by cases e
theorem res_str {H' : Hp} {i : Str} {fr : Bool} : Res K S H H' fr (.str i) (.str i) := res_of (by simp only [Rp]) fun _ e => by cases e
theorem res_non {H' : Hp} {fr : Bool} : Res K S H H' fr .none .non := res_of (by simp only [Rp]) fun _ e => by cases e
theorem Rp.int_ {i : Int} {x : V} (h : Rp K S H (.int i) x) : x = .int i := by simpa only [Rp] using h
theorem Rp.bl_ {i : Bool} {x : V} (h : Rp K S H (.bool i) x) : x = .bl i := by simpa only [Rp] using h
theorem Rp.str_ {i : Str} {x : V} (h : Rp K S H (.str i) x) : x = .str i := by simpa only [Rp] using h
theorem Rp.non_ {x : V} (h : Rp K S H .none x) : x = .non := by simpa only [Rp] using h
theorem Rp.lst_ {ds : List D} {x : V} (h : Rp K S H (.list ds) x) : ∃ a xs, x = .ref a ∧ S a ∧ H a = some (.lst xs) ∧ Rps K S H ds xs := by simpa only [Rp] using h
theorem Rp.tup_ {ds : List D} {x : V} (h : Rp K S H (.tuple ds) x) : ∃ a xs, x = .ref a ∧ SqT K H a xs ∧ Rps K S H ds xs := by simpa only [Rp] using h
theorem Rp.dic_ {kvs : List (D × D)} {x : V} (h : Rp K S H (.dict kvs) x) : ∃ (a : Addr) (ns : List Int), x = .ref a ∧ LkL K H a (ns.map V.int) ∧ kvs = ns.map fun n => (.none, .int n) := by simpa only [Rp] using h
theorem Rps.ints : ∀ (ns : List Int), Rps K S H (ns.map PyData.int) (ns.map V.int)
  | [] => .nil
  | n :: ns => .cons (by simp only [Rp]) (Rps.ints ns)

def toOp : Bo → Operator
  | .add => .Add
  | .sub => .Sub
  | .mul => .Mult
  | .fdiv => .FloorDiv
  | .mod => .Mod
  | .pow => .Pow
  | .shl => .LShift
  | .shr => .RShift
  | .band => .BitAnd
  | .bor => .BitOr
theorem opB_to {o : Bo} {o' : Operator} (h : opB o o' = true) : o' = toOp o := by cases o <;> cases o' <;> first | rfl | cases h
def toCo : Co → CmpOp
  | .lt => .Lt
  | .le => .LtE
  | .gt => .Gt
  | .ge => .GtE
  | .eq => .Eq
  | .ne => .NotEq
theorem opC_to {o : Co} {o' : CmpOp} (h : opC o o' = true) : o' = toCo o := by cases o <;> cases o' <;> first | rfl | cases h
theorem toCo_in (o : Co) : toCo o ≠ .In ∧ toCo o ≠ .NotIn := by cases o <;> exact ⟨by decide, by decide⟩
theorem MulOk.ok {i j : Int} (h : MulOk i j) : IntMulOk i j := by
  rcases h with h | h | h
  · exact .of_left (intBits_le_64 h.1 h.2)
  · exact .of_right (intBits_le_64 h.1 h.2)
  · exact CMulW.ok h
end

/-- an operator by data -/
def rBin (K : PySem.W.Frag) (o : Bo) : R2 := fun x y H Q => ∃ (S : Addr → Prop) (dx dy : D) (q : QD), Rp K S H dx x ∧ Rp K S H dy y ∧ (∀ a, H a = none → S a) ∧ binR o dx dy q ∧
  ∀ d v H', Same H H' → Res K S H H' true d v → q d → Q v H'
theorem rBin_int {K : PySem.W.Frag} {o : Bo} {x y : V} {H : Hp} {Q : VK} {S : Addr → Prop} {q : QD} {k : Int} (hq : q (.int k)) (cont : ∀ d v H', Same H H' → Res K S H H' true d v → q d → Q v H') : Q (.int k) H :=
  cont (.int k) (.int k) H (Same.refl H) res_int hq
section
variable {X : Cx}
theorem mul_intW : OpR X (binaryOp .Mult) (rI MulOk fun i j => .int (i * j)) := opI fun _ _ _ _ _ _ _ hc q => mul_int q hc.ok
theorem fdiv_intW : OpR X (binaryOp .FloorDiv) (rI (fun _ j => j ≠ 0 ∧ j.natAbs.log2 < 9000) fun i j => .int (i.fdiv j)) := opI fun _ _ _ _ _ _ _ hc q => floordiv_int hc.1 q (.inl (PyProof.noPylong_of_log2 hc.2))
theorem opBin (o : Bo) : OpR X (binaryOp (toOp o)) (rBin X.K o) := by
  intro pins s σ H x y v u Q I rx ry h
  obtain ⟨S, dx, dy, q, hx, hy, hS, hb, cont⟩ := h
  have ci : ∀ k, q (.int k) → Q (.int k) H := fun k hq => rBin_int (o := o) (x := x) (y := y) hq cont
  cases o with
  | add =>
    cases dx <;> cases dy <;> first | exact False.elim hb | skip
    · have ex := hx.int_; have ey := hy.int_; subst ex ey
      exact op_add pins s σ H _ _ v u Q I rx ry ⟨_, _, rfl, rfl, ci _ hb⟩
    · have ex := hx.str_; have ey := hy.str_; subst ex ey
      exact op_add_str pins s σ H _ _ v u Q I rx ry ⟨_, _, rfl, rfl, hb.1, cont _ _ H (Same.refl H) res_str hb.2⟩
    · obtain ⟨a, xs, rfl, sa, ha, r1⟩ := hx.lst_
      obtain ⟨b, ys, rfl, sb, hb', r2⟩ := hy.lst_
      refine op_cat pins s σ H _ _ v u Q I rx ry ⟨a, b, xs, ys, rfl, rfl, ha, hb', by rw [← r1.length, ← r2.length]; exact hb.1, fun p hp => ?_⟩
      exact cont _ _ _ (same_upd hp) (new_lst (r1.append r2) hp (hS p hp)) hb.2
    · obtain ⟨a, xs, rfl, ha, r1⟩ := hx.tup_
      obtain ⟨b, ys, rfl, hb', r2⟩ := hy.tup_
      refine op_catA pins s σ H _ _ v u Q I rx ry ⟨a, b, xs, ys, rfl, rfl, ha, hb', by rw [← r1.length, ← r2.length]; exact hb.1, fun e => ?_, fun _ e => ?_, fun _ _ p hp => ?_⟩
      · subst e
        have e1 := List.eq_nil_of_length_eq_zero (r1.length.trans rfl)
        subst e1
        exact cont _ _ _ (Same.refl H) (res_of hy fun _ e => by cases e) hb.2
      · subst e
        have e1 := List.eq_nil_of_length_eq_zero (r2.length.trans rfl)
        subst e1
        refine cont _ _ _ (Same.refl H) (res_of hx fun _ e => by cases e) ?_
        have hb2 := hb.2
        rw [List.append_nil] at hb2
        exact hb2
      · exact cont _ _ _ (same_upd hp) (res_of (new_tup (r1.append r2) hp) fun _ e => by cases e) hb.2
  | sub =>
    cases dx <;> cases dy <;> first | exact False.elim hb | skip
    have ex := hx.int_; have ey := hy.int_; subst ex ey
    exact op_sub pins s σ H _ _ v u Q I rx ry ⟨_, _, rfl, rfl, ci _ hb⟩
  | mul =>
    cases dx <;> cases dy <;> first | exact False.elim hb | skip
    · have ex := hx.int_; have ey := hy.int_; subst ex ey
      exact mul_intW pins s σ H _ _ v u Q I rx ry ⟨_, _, rfl, rfl, hb.1, ci _ hb.2⟩
    · obtain ⟨a, xs, rfl, sa, ha, r1⟩ := hx.lst_
      have ey := hy.int_; subst ey
      obtain ⟨⟨h1, h2, h3⟩, hq⟩ := hb
      refine op_rep pins s σ H _ _ v u Q I rx ry ⟨a, _, xs, rfl, rfl, ha, h1, h2, by rw [← r1.length]; exact h3, fun p hp => ?_⟩
      exact cont _ _ _ (same_upd hp) (new_lst (r1.rep _) hp (hS p hp)) hq
  | fdiv =>
    cases dx <;> cases dy <;> first | exact False.elim hb | skip
    have ex := hx.int_; have ey := hy.int_; subst ex ey
    exact fdiv_intW pins s σ H _ _ v u Q I rx ry ⟨_, _, rfl, rfl, hb.1, ci _ hb.2⟩
  | mod =>
    cases dx <;> cases dy <;> first | exact False.elim hb | skip
    have ex := hx.int_; have ey := hy.int_; subst ex ey
    exact op_modN pins s σ H _ _ v u Q I rx ry ⟨_, _, rfl, rfl, hb.1, ci _ hb.2⟩
  | pow =>
    cases dx <;> cases dy <;> first | exact False.elim hb | skip
    have ex := hx.int_; have ey := hy.int_; subst ex ey
    exact op_pow pins s σ H _ _ v u Q I rx ry ⟨_, _, rfl, rfl, hb.1, ci _ hb.2⟩
  | shl =>
    cases dx <;> cases dy <;> first | exact False.elim hb | skip
    have ex := hx.int_; have ey := hy.int_; subst ex ey
    exact op_shl pins s σ H _ _ v u Q I rx ry ⟨_, _, rfl, rfl, hb.1, ci _ hb.2⟩
  | shr =>
    cases dx <;> cases dy <;> first | exact False.elim hb | skip
    have ex := hx.int_; have ey := hy.int_; subst ex ey
    exact op_shr pins s σ H _ _ v u Q I rx ry ⟨_, _, rfl, rfl, hb.1, ci _ hb.2⟩
  | band =>
    cases dx <;> cases dy <;> first | exact False.elim hb | skip
    have ex := hx.int_; have ey := hy.int_; subst ex ey
    exact op_and pins s σ H _ _ v u Q I rx ry ⟨_, _, rfl, rfl, ci _ hb⟩
  | bor =>
    cases dx <;> cases dy <;> first | exact False.elim hb | skip
    have ex := hx.int_; have ey := hy.int_; subst ex ey
    exact op_or pins s σ H _ _ v u Q I rx ry ⟨_, _, rfl, rfl, ci _ hb⟩
end

/-- a comparison by data -/
def rCmp (K : PySem.W.Frag) (o : Co) : R2 := fun x y H Q => ∃ (S : Addr → Prop) (dx dy : D) (q : QD), Rp K S H dx x ∧ Rp K S H dy y ∧ cmpR o dx dy q ∧ ∀ b, q (.bool b) → Q (.bl b) H
section
variable {X : Cx}
theorem data_lt (hu : X.A.units + 64 < cLine) {pins : List (Addr × Obj)} {s : Shared} {σ : L2.St} {H : Hp} {x y : V} {v u : Value} {Q : VK} {S : Addr → Prop} {dx dy : D} (I : Inv X pins σ H s) (rx : RelV x v) (ry : RelV y u)
    (hx : Rp X.K S H dx x) (hy : Rp X.K S H dy y) (ok : LtOk dx dy) :
    (∀ k, k = W.dataLt dx dy → Q (.bl k) H → wpAny (model X.prog X.w) X.A (compareOp .Lt v u) (EP X pins σ Q) X.xe s) ∧
    (∀ k, k = W.dataLt dy dx → Q (.bl k) H → wpAny (model X.prog X.w) X.A (compareOp .Gt v u) (EP X pins σ Q) X.xe s) ∧
    (∀ k, k = (!W.dataLt dy dx) → Q (.bl k) H → wpAny (model X.prog X.w) X.A (compareOp .LtE v u) (EP X pins σ Q) X.xe s) ∧
    (∀ k, k = (!W.dataLt dx dy) → Q (.bl k) H → wpAny (model X.prog X.w) X.A (compareOp .GtE v u) (EP X pins σ Q) X.xe s) := by
  obtain ⟨⟨al, nn⟩, s1, s2⟩ := ok
  obtain ⟨as, r1⟩ := Dp.reads I dx x v (hx.dp _ _ s1) rx
  obtain ⟨bs, r2⟩ := Dp.reads I dy y u (hy.dp _ _ s2) ry
  have room := SeqAt.room_of_shaped (db := dy) s1 hu
  refine ⟨fun k e q => ?_, fun k e q => ?_, fun k e q => ?_, fun k e q => ?_⟩
  · subst e; exact W.lt_data r1 r2 al nn room ⟨.bl _, H, I, rfl, q⟩
  · subst e; exact W.gt_data r1 r2 al nn room ⟨.bl _, H, I, rfl, q⟩
  · subst e; exact W.le_data r1 r2 al nn room ⟨.bl _, H, I, rfl, q⟩
  · subst e; exact W.ge_data r1 r2 al nn room ⟨.bl _, H, I, rfl, q⟩
theorem data_eq (hu : X.A.units + 64 < cLine) {pins : List (Addr × Obj)} {s : Shared} {σ : L2.St} {H : Hp} {x y : V} {v u : Value} {Q : VK} {S : Addr → Prop} {dx dy : D} (I : Inv X pins σ H s) (rx : RelV x v) (ry : RelV y u)
    (hx : Rp X.K S H dx x) (hy : Rp X.K S H dy y) (ok : EqOk dx dy) :
    (Q (.bl (PyData.eqv dx dy)) H → wpAny (model X.prog X.w) X.A (compareOp .Eq v u) (EP X pins σ Q) X.xe s) ∧
    (Q (.bl (!PyData.eqv dx dy)) H → wpAny (model X.prog X.w) X.A (compareOp .NotEq v u) (EP X pins σ Q) X.xe s) :=
  ⟨fun q => op_eqD hu pins s σ H x y v u Q I rx ry ⟨dx, dy, hx.dp _ _ ok.1, hy.dp _ _ ok.2, ok.1, ok.2, q⟩,
   fun q => op_neD hu pins s σ H x y v u Q I rx ry ⟨dx, dy, hx.dp _ _ ok.1, hy.dp _ _ ok.2, ok.1, ok.2, q⟩⟩
theorem opCmp (hu : X.A.units + 64 < cLine) (o : Co) : OpR X (compareOp (toCo o)) (rCmp X.K o) := by
  intro pins s σ H x y v u Q I rx ry h
  obtain ⟨S, dx, dy, q, hx, hy, hc, cont⟩ := h
  have L := fun ok => data_lt (Q := Q) hu I rx ry hx hy ok
  have E := fun ok => data_eq (Q := Q) hu I rx ry hx hy ok
  unfold cmpR at hc
  split at hc
  · have ex := hx.int_; have ey := hy.int_; subst ex ey
    exact op_lt pins s σ H _ _ v u Q I rx ry ⟨_, _, rfl, rfl, cont _ hc⟩
  · have ex := hx.int_; have ey := hy.int_; subst ex ey
    exact op_le pins s σ H _ _ v u Q I rx ry ⟨_, _, rfl, rfl, cont _ hc⟩
  · have ex := hx.int_; have ey := hy.int_; subst ex ey
    exact op_gt pins s σ H _ _ v u Q I rx ry ⟨_, _, rfl, rfl, cont _ hc⟩
  · have ex := hx.int_; have ey := hy.int_; subst ex ey
    exact op_ge pins s σ H _ _ v u Q I rx ry ⟨_, _, rfl, rfl, cont _ hc⟩
  · have ex := hx.int_; have ey := hy.int_; subst ex ey
    refine op_eq pins s σ H _ _ v u Q I rx ry ⟨rfl, ?_⟩
    have e : ∀ i j : Int, decide (V.int i = V.int j) = decide (i = j) := fun i j => by rw [dec_int]; rfl
    rw [e]; exact cont _ hc
  · have ex := hx.int_; have ey := hy.int_; subst ex ey
    refine op_ne pins s σ H _ _ v u Q I rx ry ⟨rfl, ?_⟩
    have e : ∀ i j : Int, decide (V.int i = V.int j) = decide (i = j) := fun i j => by rw [dec_int]; rfl
    rw [e]; exact cont _ hc
  · have ex := hx.str_; have ey := hy.str_; subst ex ey
    refine op_eq pins s σ H _ _ v u Q I rx ry ⟨rfl, ?_⟩
    rw [dec_str]; exact cont _ hc
  · have ex := hx.str_; have ey := hy.str_; subst ex ey
    refine op_ne pins s σ H _ _ v u Q I rx ry ⟨rfl, ?_⟩
    rw [dec_str]; exact cont _ hc
  · exact (E hc.1).1 (cont _ hc.2)
  · exact (E hc.1).2 (cont _ hc.2)
  · exact (L hc.1).1 _ rfl (cont _ hc.2)
  · exact (L hc.1).2.1 _ rfl (cont _ hc.2)
  · exact (L hc.1).2.2.1 _ rfl (cont _ hc.2)
  · exact (L hc.1).2.2.2 _ rfl (cont _ hc.2)
theorem emp_of {K : PySem.W.Frag} {S : Addr → Prop} {H : Hp} {ds : List D} {xs : List V} (r : Rps K S H ds xs) : xs.isEmpty = ds.isEmpty := by
  have := r.length
  cases xs <;> cases ds <;> simp at this ⊢
/-- a value's truth by data -/
theorem tru_of {K : PySem.W.Frag} {S : Addr → Prop} {H : Hp} {d : D} {x : V} {Q : Bool → Prop} (h : Rp K S H d x) (t : truR d Q) : ∃ k, TruV K x H k ∧ Q k := by
  unfold truR at t
  split at t
  · have e := h.non_; subst e; exact ⟨_, rfl, t⟩
  · have e := h.bl_; subst e; exact ⟨_, rfl, t⟩
  · have e := h.int_; subst e; exact ⟨_, rfl, t⟩
  · have e := h.str_; subst e
    refine ⟨_, ⟨t.1, rfl⟩, ?_⟩
    have := t.2
    rename_i z
    have e : ((z.length : Int) != 0) = (z.length != 0) := by
      cases z.length with
      | zero => rfl
      | succ n => simp; omega
    rw [e]; exact this
  · obtain ⟨a, xs, rfl, _, ha, r⟩ := h.lst_
    refine ⟨!xs.isEmpty, .inl ⟨xs, SqL.of ha, rfl⟩, ?_⟩
    rw [emp_of r]; exact t
  · obtain ⟨a, xs, rfl, ha, r⟩ := h.tup_
    refine ⟨!xs.isEmpty, .inr (.inl ⟨xs, ha, rfl⟩), ?_⟩
    rw [emp_of r]; exact t
  · exact False.elim t
end
end Uq

set_option maxHeartbeats 1000000
/-! Uq, part e: how our slots lie in a frame. -/
namespace Uq
open PySem PySem.Spec PyProof.Rows L2

/-- a program's exception classes: their addresses, their fields -/
abbrev XA := Nat → Addr → Nat → Addr → Prop
abbrev xa0 : XA := fun _ _ _ _ => False
structure Pg where
  CA : Nat → Addr
  flds : Nat → List Str
  xa : XA
  rz : List Nat
def XRp (K : PySem.W.Frag) (P : Pg) (H : Hp) (k : Nat) (fs : List D) (cv : Value) (dx : Option Addr) : Prop :=
  k ∈ P.rz ∧ ∃ dd vs, cv = .ref (P.CA k) ∧ dx = some dd ∧ H dd = some (.xd ((P.flds k).zip vs).reverse) ∧ noLs fs = true ∧ Rps K (fun _ => True) H fs vs ∧ fs.length = (P.flds k).length
abbrev Ow := Nat → List Addr
def SS (S0 : Addr → Prop) (LL : Ow) (a : Addr) : Prop := S0 a ∧ ∀ j, a ∉ LL j
def NmS (S0 : Addr → Prop) (LL : Ow) (nm : List Nat) (a : Addr) : Prop := S0 a ∧ ∀ i, a ∈ LL i → i ∈ nm
def RNl (K : PySem.W.Frag) (S : Addr → Prop) (H : Hp) : List Addr → List (List D) → Prop
  | [], [] => True
  | b :: bs, ds :: dss => (∃ xs, H b = some (.lst xs) ∧ Rps K S H ds xs) ∧ RNl K S H bs dss
  | _, _ => False
/-- a dict's entries -/
def REn (K : PySem.W.Frag) (S : Addr → Prop) (H : Hp) : List (List Int × D) → List (List Key × V) → Prop
  | [], [] => True
  | p :: ps, q :: qs => (q.1 = p.1.map Sum.inl ∧ noL p.2 = true ∧ Rp K S H p.2 q.2) ∧ REn K S H ps qs
  | _, _ => False
def DcAt (H : Hp) (a : Addr) (t : Bool) (en : List (List Key × V)) : Prop := match t with
  | true => H a = some (.dT en)
  | false => ∃ kk : List (Key × V), H a = some (.dK kk) ∧ en = kk.map fun q => ([q.1], q.2)
theorem DcAt.mu {H : Hp} {a : Addr} {t : Bool} {en : List (List Key × V)} (h : DcAt H a t en) : ∃ m : Mo, H a = some m.1 := by
  cases t with
  | true => exact ⟨⟨_, .inr (.inr ⟨_, rfl⟩)⟩, h⟩
  | false => obtain ⟨kk, h, _⟩ := h; exact ⟨⟨_, .inr (.inl ⟨_, rfl⟩)⟩, h⟩
theorem DcAt.as {H H' : Hp} {a : Addr} {t : Bool} {en : List (List Key × V)} (h : DcAt H a t en) (e : H' a = H a) : DcAt H' a t en := by
  cases t with
  | true => exact e.trans h
  | false => obtain ⟨kk, h, z⟩ := h; exact ⟨kk, e.trans h, z⟩
theorem REn.mono {K : PySem.W.Frag} {S S' : Addr → Prop} {H H' : Hp} (hS : ∀ a o, H a = some o → S a → S' a) (k : Kp S H H') : ∀ {ps : List (List Int × D)} {qs : List (List Key × V)}, REn K S H ps qs → REn K S' H' ps qs
  | [], [], _ => trivial
  | [], _ :: _, h => h.elim
  | _ :: _, [], h => h.elim
  | p :: ps, q :: qs, ⟨⟨h1, h2, h3⟩, h⟩ => ⟨⟨h1, h2, Rp.mono hS k _ _ h3⟩, REn.mono hS k h⟩
def RSl (K : PySem.W.Frag) (P : Pg) (i : Nat) (S : Addr → Prop) (H : Hp) (L : List Addr) (s : Sl) (v : Option V) : Prop :=
  match s with
  | .no => L = []
  | .va d => L = [] ∧ ∃ x, v = some x ∧ Rp K S H d x
  | .ol ds => ∃ a xs, v = some (.ref a) ∧ L = [a] ∧ H a = some (.lst xs) ∧ Rps K S H ds xs
  | .nl dss => ∃ a bs, v = some (.ref a) ∧ L = a :: bs ∧ (a :: bs).Nodup ∧ H a = some (.lst (bs.map V.ref)) ∧ RNl K S H bs dss
  | .dc t kvs => ∃ a en, v = some (.ref a) ∧ L = [a] ∧ DcAt H a t en ∧ REn K S H kvs en
  | .xc c fs => L = [] ∧ ∃ a dd vs, v = some (.ref a) ∧ P.xa i a c dd ∧ H dd = some (.xd ((P.flds c).zip vs).reverse) ∧ Rps K S H fs vs ∧ fs.length = (P.flds c).length
theorem RNl.mono {K : PySem.W.Frag} {S S' : Addr → Prop} {H H' : Hp} (hS : ∀ a o, H a = some o → S a → S' a) (k : Kp S H H') : ∀ {bs : List Addr} {dss : List (List D)}, (∀ b ∈ bs, H' b = H b) → RNl K S H bs dss → RNl K S' H' bs dss
  | [], [], _, _ => trivial
  | [], _ :: _, _, h => h.elim
  | _ :: _, [], _, h => h.elim
  | b :: bs, ds :: dss, ko, ⟨⟨xs, hb, r⟩, h⟩ => ⟨⟨xs, (ko b List.mem_cons_self).trans hb, Rps.mono hS k _ _ r⟩, RNl.mono hS k (fun c hc => ko c (List.mem_cons_of_mem _ hc)) h⟩
theorem RNl.len {K : PySem.W.Frag} {S : Addr → Prop} {H : Hp} : ∀ {bs : List Addr} {dss : List (List D)}, RNl K S H bs dss → bs.length = dss.length
  | [], [], _ => rfl
  | [], _ :: _, h => h.elim
  | _ :: _, [], h => h.elim
  | b :: bs, ds :: dss, h => by simp [h.2.len]
theorem RNl.lst {K : PySem.W.Frag} {S : Addr → Prop} {H : Hp} : ∀ {bs : List Addr} {dss : List (List D)}, RNl K S H bs dss → ∀ b ∈ bs, ∃ xs, H b = some (.lst xs)
  | [], _, _, b, hb => nomatch hb
  | _ :: _, [], h, _, _ => h.elim
  | c :: bs, ds :: dss, h, b, hb => by
    rcases List.mem_cons.mp hb with e | hb
    · rw [e]; obtain ⟨xs, hx, _⟩ := h.1; exact ⟨xs, hx⟩
    · exact h.2.lst b hb
theorem RNl.get {K : PySem.W.Frag} {S : Addr → Prop} {H : Hp} : ∀ {bs : List Addr} {dss : List (List D)} {n : Nat} {ds : List D}, RNl K S H bs dss → dss[n]? = some ds → ∃ b xs, bs[n]? = some b ∧ H b = some (.lst xs) ∧ Rps K S H ds xs
  | [], [], n, _, _, e => by simp at e
  | [], _ :: _, _, _, h, _ => h.elim
  | _ :: _, [], _, _, h, _ => h.elim
  | b :: bs, ds :: dss, 0, _, h, e => by
    simp at e
    subst e
    obtain ⟨xs, hx, r⟩ := h.1
    exact ⟨b, xs, rfl, hx, r⟩
  | b :: bs, ds :: dss, n + 1, _, h, e => by
    simp at e
    obtain ⟨c, xs, h1, h2, h3⟩ := h.2.get e
    exact ⟨c, xs, by simpa using h1, h2, h3⟩
/-- one of them is changed -/
theorem RNl.upd {K : PySem.W.Frag} {S : Addr → Prop} {H : Hp} {b : Addr} {xs' : List V} {ds' : List D} (kp : Kp S H (upd H b (.lst xs'))) (r' : Rps K S (upd H b (.lst xs')) ds' xs') : ∀ {bs : List Addr} {dss : List (List D)} {n : Nat}, bs.Nodup → bs[n]? = some b → RNl K S H bs dss → RNl K S (upd H b (.lst xs')) bs (dss.set n ds')
  | [], _, _, _, e, _ => by simp at e
  | _ :: _, [], _, _, _, h => h.elim
  | c :: bs, ds :: dss, 0, nd, e, h => by
    simp at e
    subst e
    refine ⟨⟨xs', upd_same, r'⟩, RNl.mono (fun _ _ _ z => z) kp (fun d hd => ?_) h.2⟩
    rw [upd_ne]
    rintro rfl
    exact (List.nodup_cons.mp nd).1 hd
  | c :: bs, ds :: dss, n + 1, nd, e, h => by
    simp at e
    have hne : c ≠ b := fun z => (List.nodup_cons.mp nd).1 (by rw [z]; exact List.mem_of_getElem? e)
    obtain ⟨⟨xs, hx, r⟩, h2⟩ := h
    exact ⟨⟨xs, by rw [upd_ne hne]; exact hx, Rps.mono (fun _ _ _ z => z) kp _ _ r⟩, RNl.upd kp r' (List.nodup_cons.mp nd).2 e h2⟩
theorem RNl.snoc {K : PySem.W.Frag} {S : Addr → Prop} {H : Hp} {b : Addr} (hb : H b = some (.lst [])) : ∀ {bs : List Addr} {dss : List (List D)}, RNl K S H bs dss → RNl K S H (bs ++ [b]) (dss ++ [[]])
  | [], [], _ => ⟨⟨[], hb, .nil⟩, trivial⟩
  | [], _ :: _, h => h.elim
  | _ :: _, [], h => h.elim
  | _ :: bs, _ :: dss, h => ⟨h.1, h.2.snoc hb⟩
/-- as shared lists -/
theorem RNl.shared {K : PySem.W.Frag} {S : Addr → Prop} {H : Hp} : ∀ {bs : List Addr} {dss : List (List D)}, (∀ b ∈ bs, S b) → RNl K S H bs dss → Rps K S H (dss.map .list) (bs.map V.ref)
  | [], [], _, _ => .nil
  | [], _ :: _, _, h => h.elim
  | _ :: _, [], _, h => h.elim
  | b :: bs, ds :: dss, hs, h => by
    refine .cons ?_ (RNl.shared (fun c hc => hs c (List.mem_cons_of_mem _ hc)) h.2)
    obtain ⟨xs, hx, r⟩ := h.1
    simp only [Rp]
    exact ⟨b, xs, rfl, hs b List.mem_cons_self, hx, r⟩
structure Rel (K : PySem.W.Frag) (P : Pg) (S0 : Addr → Prop) (LL : Ow) (ρ : Env) (σ : L2.St) (H : Hp) : Prop where
  ln : ρ.length = σ.length
  slot : ∀ i s, ρ[i]? = some s → RSl K P i (SS S0 LL) H (LL i) s (σ[i]?.join)
  dj : ∀ i j a, a ∈ LL i → a ∈ LL j → i = j
  own : ∀ i a, a ∈ LL i → S0 a ∧ ∃ m : Mo, H a = some m.1
  fr : ∀ a, H a = none → S0 a
def Lset (LL : Ow) (i : Nat) (L : List Addr) : Ow := fun j => if j = i then L else LL j
theorem Lset_same {LL : Ow} {i : Nat} {L : List Addr} : Lset LL i L i = L := by simp [Lset]
theorem Lset_ne {LL : Ow} {i j : Nat} {L : List Addr} (h : j ≠ i) : Lset LL i L j = LL j := by simp [Lset, h]
/-- the frame: what is not owned stays; what is owned later was owned or is new -/
def Fm (LL : Ow) (H : Hp) (LL' : Ow) (H' : Hp) : Prop := (∀ a o, H a = some o → (∀ j, a ∉ LL j) → H' a = some o) ∧ (∀ j a, a ∈ LL' j → (∃ i, a ∈ LL i) ∨ H a = none)
theorem Fm.refl {LL : Ow} {H : Hp} : Fm LL H LL H := ⟨fun _ _ h _ => h, fun j _ h => .inl ⟨j, h⟩⟩
theorem Fm.of_same {LL : Ow} {H H' : Hp} (h : Same H H') : Fm LL H LL H' := ⟨fun a o e _ => h a o e, fun j _ h => .inl ⟨j, h⟩⟩
theorem Fm.trans {LL LL1 LL2 : Ow} {H H1 H2 : Hp} (f : Fm LL H LL1 H1) (g : Fm LL1 H1 LL2 H2) : Fm LL H LL2 H2 := by
  have nin : ∀ a o, H a = some o → (∀ j, a ∉ LL j) → ∀ j, a ∉ LL1 j := fun a o e n j hj => by
    rcases f.2 j a hj with ⟨i, h⟩ | h
    · exact n i h
    · rw [e] at h; cases h
  refine ⟨fun a o e n => g.1 a o (f.1 a o e n) (nin a o e n), fun j a h => ?_⟩
  rcases g.2 j a h with ⟨i, h⟩ | h
  · exact f.2 i a h
  · cases q : H a with
    | none => exact .inr rfl
    | some o =>
      by_cases n : ∀ j, a ∉ LL j
      · rw [f.1 a o q n] at h; cases h
      · exact .inl (Classical.byContradiction fun z => n fun j hj => z ⟨j, hj⟩)
theorem same_none {H H' : Hp} (e : Same H H') {l : Addr} (h : H' l = none) : H l = none := e.free h

section
variable {K : PySem.W.Frag} {P : Pg} {S0 : Addr → Prop} {LL : Ow} {ρ : Env} {σ : L2.St} {H H' : Hp}
theorem SS.nm {nm : List Nat} {a : Addr} (h : SS S0 LL a) : NmS S0 LL nm a := ⟨h.1, fun i hi => absurd hi (h.2 i)⟩
theorem NmS.sub {nm nm' : List Nat} (hs : ∀ i ∈ nm, i ∈ nm') {a : Addr} (h : NmS S0 LL nm a) : NmS S0 LL nm' a := ⟨h.1, fun i hi => hs i (h.2 i hi)⟩
theorem RSl.mono {i : Nat} {S S' : Addr → Prop} {L : List Addr} {s : Sl} {v : Option V} (hS : ∀ a o, H a = some o → S a → S' a) (k : Kp S H H') (ko : ∀ a ∈ L, H' a = H a) (h : RSl K P i S H L s v) : RSl K P i S' H' L s v := by
  cases s with
  | no => exact h
  | va d =>
    obtain ⟨h1, x, e, r⟩ := h
    exact ⟨h1, x, e, Rp.mono hS k _ _ r⟩
  | ol ds =>
    obtain ⟨a, xs, e, eL, ha, r⟩ := h
    exact ⟨a, xs, e, eL, (ko a (by rw [eL]; exact List.mem_cons_self)).trans ha, Rps.mono hS k _ _ r⟩
  | nl dss =>
    obtain ⟨a, bs, e, eL, nd, ha, r⟩ := h
    exact ⟨a, bs, e, eL, nd, (ko a (by rw [eL]; exact List.mem_cons_self)).trans ha, r.mono hS k fun b hb => ko b (by rw [eL]; exact List.mem_cons_of_mem _ hb)⟩
  | dc t kvs =>
    obtain ⟨a, en, e, eL, hd, r⟩ := h
    exact ⟨a, en, e, eL, hd.as (ko a (by rw [eL]; exact List.mem_cons_self)), r.mono hS k⟩
  | xc c fs =>
    obtain ⟨eL, a, dd, vs, e, x, hd, r, l⟩ := h
    exact ⟨eL, a, dd, vs, e, x, k dd _ hd (.inr mu_xd), Rps.mono hS k _ _ r, l⟩
theorem Rel.same (R : Rel K P S0 LL ρ σ H) (s : Same H H') : Rel K P S0 LL ρ σ H' where
  ln := R.ln
  slot := fun i t e => (R.slot i t e).mono (fun _ _ _ h => h) (.of_same s) fun a ha => by
    obtain ⟨_, xs, e⟩ := R.own i a ha
    rw [e, s a _ e]
  dj := R.dj
  own := fun i a h => ⟨(R.own i a h).1, let ⟨xs, e⟩ := (R.own i a h).2; ⟨xs, s a _ e⟩⟩
  fr := fun a h => R.fr a (same_none s h)
/-- a slot's content is put -/
theorem Rel.put (R : Rel K P S0 LL ρ σ H) (i : Nat) (s : Sl) (v : Option V) (L : List Addr) (hS : ∀ b o, H b = some o → SS S0 LL b → SS S0 (Lset LL i L) b) (kp : Kp (SS S0 LL) H H')
    (ko : ∀ j, j ≠ i → ∀ a ∈ LL j, H' a = H a) (new : RSl K P i (SS S0 (Lset LL i L)) H' L s v) (ownL : ∀ a ∈ L, S0 a ∧ (∃ m : Mo, H' a = some m.1) ∧ ∀ j, j ≠ i → a ∉ LL j)
    (hf : ∀ a, H' a = none → H a = none) : Rel K P S0 (Lset LL i L) (ρ.set i s) (σ.set i v) H' where
  ln := by rw [List.length_set, List.length_set]; exact R.ln
  slot := fun j t e => by
    by_cases hj : j = i
    · subst hj
      have hl : j < ρ.length := by
        have := (List.getElem?_eq_some_iff.mp e).1
        rwa [List.length_set] at this
      rw [List.getElem?_set_self hl] at e
      cases e
      rw [List.getElem?_set_self (by rw [← R.ln]; exact hl), Lset_same]
      exact new
    · rw [List.getElem?_set_ne (Ne.symm hj)] at e
      rw [List.getElem?_set_ne (Ne.symm hj), Lset_ne hj]
      exact (R.slot j t e).mono hS kp (ko j hj)
  dj := fun j k a h1 h2 => by
    by_cases hj : j = i
    · by_cases hk : k = i
      · rw [hj, hk]
      · subst hj
        rw [Lset_same] at h1
        rw [Lset_ne hk] at h2
        exact absurd h2 ((ownL a h1).2.2 k hk)
    · rw [Lset_ne hj] at h1
      by_cases hk : k = i
      · subst hk
        rw [Lset_same] at h2
        exact absurd h1 ((ownL a h2).2.2 j hj)
      · rw [Lset_ne hk] at h2
        exact R.dj j k a h1 h2
  own := fun j a h => by
    by_cases hj : j = i
    · subst hj
      rw [Lset_same] at h
      exact ⟨(ownL a h).1, (ownL a h).2.1⟩
    · rw [Lset_ne hj] at h
      obtain ⟨s1, xs, e⟩ := R.own j a h
      exact ⟨s1, xs, by rw [ko j hj a h]; exact e⟩
  fr := fun a h => R.fr a (hf a h)
theorem SS.less {i : Nat} {a : Addr} (h : SS S0 LL a) : SS S0 (Lset LL i []) a := ⟨h.1, fun j hj => by
  by_cases e : j = i
  · subst e; rw [Lset_same] at hj; cases hj
  · rw [Lset_ne e] at hj; exact h.2 j hj⟩
/-- .. a value -/
theorem Rel.setVa (R : Rel K P S0 LL ρ σ H) (i : Nat) {d : D} {x : V} (h : Rp K (SS S0 LL) H d x) : Rel K P S0 (Lset LL i []) (ρ.set i (.va d)) (σ.set i (some x)) H :=
  R.put i _ _ [] (fun _ _ _ h => h.less) (.of_same (Same.refl H)) (fun _ _ _ _ => rfl) ⟨rfl, x, rfl, h.wide fun _ _ _ h => h.less⟩ (fun _ h => nomatch h) fun _ h => h
/-- .. nothing -/
theorem Rel.setNo (R : Rel K P S0 LL ρ σ H) (i : Nat) (v : Option V) : Rel K P S0 (Lset LL i []) (ρ.set i .no) (σ.set i v) H :=
  R.put i _ _ [] (fun _ _ _ h => h.less) (.of_same (Same.refl H)) (fun _ _ _ _ => rfl) rfl (fun _ h => nomatch h) fun _ h => h
theorem Fm.less {i : Nat} : Fm LL H (Lset LL i []) H := ⟨fun _ _ h _ => h, fun j a h => by
  by_cases e : j = i
  · subst e; rw [Lset_same] at h; cases h
  · rw [Lset_ne e] at h; exact .inl ⟨j, h⟩⟩
/-- .. a new list that nothing else knows: Hs is the heap ahead of its making -/
theorem Rel.setOl {Hs : Hp} (R : Rel K P S0 LL ρ σ Hs) (s : Same Hs H) (i : Nat) {ds : List D} {a : Addr} {xs : List V} (ha : Hs a = none) (hl : H a = some (.lst xs)) (r : Rps K (fun b => SS S0 LL b ∧ b ≠ a) H ds xs) :
    Rel K P S0 (Lset LL i [a]) (ρ.set i (.ol ds)) (σ.set i (some (.ref a))) H := by
  have na : ∀ j, a ∉ LL j := fun j h => by
    obtain ⟨_, ys, e⟩ := R.own j a h
    rw [ha] at e; cases e
  have hS : ∀ b, SS S0 LL b → b ≠ a → SS S0 (Lset LL i [a]) b := fun b h n => ⟨h.1, fun j hj => by
    by_cases e : j = i
    · subst e; rw [Lset_same] at hj; exact n (List.mem_singleton.mp hj)
    · rw [Lset_ne e] at hj; exact h.2 j hj⟩
  refine R.put i _ _ [a] (fun b o e h => hS b h (ne_of_none e ha)) (.of_same s) (fun j _ b hb => ?_) ⟨a, xs, rfl, rfl, hl, r.wide fun b _ _ h => hS b h.1 h.2⟩ (fun b hb => ?_) fun b h => same_none s h
  · obtain ⟨_, ys, e⟩ := R.own j b hb
    rw [e, s b _ e]
  · rw [List.mem_singleton.mp hb]
    exact ⟨R.fr a ha, ⟨moL xs, hl⟩, fun j _ => na j⟩
theorem Fm.more {Hs : Hp} {i : Nat} {a : Addr} (s : Same Hs H) (ha : Hs a = none) : Fm LL Hs (Lset LL i [a]) H := ⟨fun b o e _ => s b o e, fun j b h => by
  by_cases e : j = i
  · subst e; rw [Lset_same] at h; rw [List.mem_singleton.mp h]; exact .inr ha
  · rw [Lset_ne e] at h; exact .inl ⟨j, h⟩⟩
/-- .. the own list is changed -/
theorem Rel.chg (R : Rel K P S0 LL ρ σ H) (i : Nat) {ds ds' : List D} (e : ρ[i]? = some (.ol ds)) : ∃ a xs, σ[i]? = some (some (.ref a)) ∧ H a = some (.lst xs) ∧ Rps K (SS S0 LL) H ds xs ∧
    ∀ (xs' : List V) (H1 : Hp), Same H H1 → Rps K (SS S0 LL) H1 ds' xs' → Rel K P S0 LL (ρ.set i (.ol ds')) σ (upd H1 a (.lst xs')) ∧ Fm LL H LL (upd H1 a (.lst xs')) := by
  obtain ⟨a, xs, ev, eL, ha, r⟩ := R.slot i _ e
  have es : σ[i]? = some (some (.ref a)) := by
    cases q : σ[i]? with
    | none => rw [q] at ev; cases ev
    | some w => rw [q] at ev; exact congrArg some ev
  refine ⟨a, xs, es, ha, r, fun xs' H1 s r' => ?_⟩
  have R1 := R.same s
  have na : ∀ b, SS S0 LL b → b ≠ a := fun b h z => h.2 i (by rw [eL, z]; exact List.mem_cons_self)
  have ha1 : H1 a = some (.lst xs) := s a _ ha
  have kp : Kp (SS S0 LL) H1 (upd H1 a (.lst xs')) := fun b o eb h => by
    rw [upd_ne]
    · exact eb
    · rintro rfl
      rcases h with h | h
      · exact na _ h rfl
      · rw [ha1] at eb; cases eb; exact h (moL _) rfl
  have eLL : Lset LL i (LL i) = LL := by
    funext j
    by_cases ej : j = i
    · subst ej; rw [Lset_same]
    · rw [Lset_ne ej]
  have hsig : σ.set i (some (.ref a)) = σ := by
    apply List.ext_getElem?
    intro j
    by_cases ej : i = j
    · subst ej
      rw [List.getElem?_set_self (List.getElem?_eq_some_iff.mp es).1, es]
    · rw [List.getElem?_set_ne ej]
  have Z := R1.put (H' := upd H1 a (.lst xs')) i (.ol ds') (some (.ref a)) (LL i) (fun b _ _ h => by rw [eLL]; exact h) kp (fun j hj b hb => ?_) ?_ (fun b hb => ?_) (fun b h => ?_)
  · rw [eLL, hsig] at Z
    refine ⟨Z, fun b o eb h => ?_, fun j b h => .inl ⟨j, h⟩⟩
    rw [upd_ne]
    · exact s b o eb
    · rintro rfl
      exact h i (by rw [eL]; exact List.mem_cons_self)
  · rw [upd_ne]
    rintro rfl
    exact hj (R.dj j i _ hb (by rw [eL]; exact List.mem_cons_self))
  · rw [eLL]
    exact ⟨a, xs', rfl, eL, upd_same, Rps.mono (fun _ _ _ h => h) kp _ _ r'⟩
  · rw [eL] at hb
    have e1 := List.mem_singleton.mp hb
    subst e1
    refine ⟨(R.own i b (by rw [eL]; exact List.mem_cons_self)).1, ⟨moL xs', upd_same⟩, fun j hj hb' => hj (R.dj j i b hb' (by rw [eL]; exact List.mem_cons_self))⟩
  · by_cases eb : b = a
    · subst eb; rw [upd_same] at h; cases h
    · rw [upd_ne eb] at h; exact h
/-- lists that are shared from here on -/
def Lfrz (LL : Ow) : List Nat → Ow
  | [] => LL
  | i :: is => Lfrz (Lset LL i []) is
theorem Lfrz_in : ∀ {is : List Nat} {LL : Ow} {j : Nat} {a : Addr}, a ∈ Lfrz LL is j → a ∈ LL j ∧ j ∉ is
  | [], LL, j, a, h => ⟨h, by simp⟩
  | i :: is, LL, j, a, h => by
    obtain ⟨h1, h2⟩ := Lfrz_in (is := is) h
    by_cases e : j = i
    · subst e; rw [Lset_same] at h1; cases h1
    · rw [Lset_ne e] at h1
      exact ⟨h1, by simp only [List.mem_cons, not_or]; exact ⟨e, h2⟩⟩
theorem Rel.frz1 (R : Rel K P S0 LL ρ σ H) (i : Nat) : Rel K P S0 (Lset LL i []) (ρ.modify i Sl.frz) σ H where
  ln := by rw [List.length_modify]; exact R.ln
  slot := fun j t e => by
    rw [List.getElem?_modify] at e
    cases q : ρ[j]? with
    | none => rw [q] at e; cases e
    | some s0 =>
      rw [q] at e
      have R0 := R.slot j s0 q
      by_cases ej : i = j
      · subst ej
        have et : t = s0.frz := by simpa using e.symm
        subst et
        rw [Lset_same]
        have R0' := R0.mono (S' := SS S0 (Lset LL i [])) (H' := H) (fun _ _ _ h => h.less) (.of_same (Same.refl H)) (fun _ _ => rfl)
        cases s0 with
        | no => rfl
        | va d => exact ⟨rfl, R0'.2⟩
        | dc t kvs => rfl
        | xc c fs => exact ⟨rfl, R0'.2⟩
        | nl dss =>
          obtain ⟨a, bs, ev, eL, nd, ha, r⟩ := R0'
          refine ⟨rfl, .ref a, ev, ?_⟩
          have own : ∀ b ∈ LL i, SS S0 (Lset LL i []) b := fun b hb => ⟨(R.own i b hb).1, fun k hk => by
            by_cases ek : k = i
            · subst ek; rw [Lset_same] at hk; cases hk
            · rw [Lset_ne ek] at hk
              exact ek (R.dj k i b hk hb)⟩
          simp only [Rp]
          exact ⟨a, _, rfl, own a (by rw [eL]; exact List.mem_cons_self), ha, r.shared fun b hb => own b (by rw [eL]; exact List.mem_cons_of_mem _ hb)⟩
        | ol ds =>
          obtain ⟨a, xs, ev, eL, ha, r⟩ := R0'
          refine ⟨rfl, .ref a, ev, ?_⟩
          simp only [Rp]
          refine ⟨a, xs, rfl, ⟨(R.own i a (by rw [eL]; exact List.mem_cons_self)).1, fun k hk => ?_⟩, ha, r⟩
          by_cases ek : k = i
          · subst ek; rw [Lset_same] at hk; cases hk
          · rw [Lset_ne ek] at hk
            exact ek (R.dj k i a hk (by rw [eL]; exact List.mem_cons_self))
      · have et : t = s0 := by
          have e' : some (if i = j then s0.frz else s0) = some t := e
          rw [if_neg ej] at e'
          exact (Option.some.inj e').symm
        subst et
        rw [Lset_ne (Ne.symm ej)]
        exact R0.mono (fun _ _ _ h => h.less) (.of_same (Same.refl H)) fun _ _ => rfl
  dj := fun j k a h1 h2 => by
    by_cases ej : j = i
    · subst ej; rw [Lset_same] at h1; cases h1
    · by_cases ek : k = i
      · subst ek; rw [Lset_same] at h2; cases h2
      · rw [Lset_ne ej] at h1
        rw [Lset_ne ek] at h2
        exact R.dj j k a h1 h2
  own := fun j a h => by
    by_cases ej : j = i
    · subst ej; rw [Lset_same] at h; cases h
    · rw [Lset_ne ej] at h; exact R.own j a h
  fr := R.fr
theorem Rel.frzL : ∀ (is : List Nat) {LL : Ow} {ρ : Env}, Rel K P S0 LL ρ σ H → Rel K P S0 (Lfrz LL is) (Uq.frzL is ρ) σ H
  | [], _, _, R => R
  | i :: is, _, _, R => Rel.frzL is (R.frz1 i)
theorem Fm.frz {is : List Nat} : Fm LL H (Lfrz LL is) H := ⟨fun _ _ h _ => h, fun j _ h => .inl ⟨j, (Lfrz_in h).1⟩⟩
theorem NmS.frz {is : List Nat} {a : Addr} (h : NmS S0 LL is a) : SS S0 (Lfrz LL is) a := ⟨h.1, fun j hj => (Lfrz_in hj).2 (h.2 j (Lfrz_in hj).1)⟩
theorem SS.frz {is : List Nat} {a : Addr} (h : SS S0 LL a) : SS S0 (Lfrz LL is) a := ⟨h.1, fun j hj => h.2 j (Lfrz_in hj).1⟩
theorem kil_get : ∀ (is : List Nat) (ρ : Env) (j : Nat), (j ∉ is → (Uq.kil is ρ)[j]? = ρ[j]?) ∧ (j ∈ is → ∀ s, (Uq.kil is ρ)[j]? = some s → s = .no)
  | [], ρ, j => ⟨fun _ => rfl, fun h => nomatch h⟩
  | i :: is, ρ, j => by
    have ih := kil_get is (ρ.set i .no) j
    refine ⟨fun h => ?_, fun h s e => ?_⟩
    · simp only [List.mem_cons, not_or] at h
      show (Uq.kil is (ρ.set i .no))[j]? = _
      rw [ih.1 h.2, List.getElem?_set_ne (Ne.symm h.1)]
    · have e : (Uq.kil is (ρ.set i .no))[j]? = some s := e
      by_cases hj : j ∈ is
      · exact ih.2 hj s e
      · rw [ih.1 hj] at e
        have ej : j = i := (List.mem_cons.mp h).resolve_right hj
        subst ej
        by_cases hl : j < ρ.length
        · rw [List.getElem?_set_self hl] at e; cases e; rfl
        · rw [List.getElem?_eq_none (by rw [List.length_set]; omega)] at e; cases e
theorem kil_length : ∀ (is : List Nat) (ρ : Env), (Uq.kil is ρ).length = ρ.length
  | [], _ => rfl
  | i :: is, ρ => by show (Uq.kil is (ρ.set i .no)).length = _; rw [kil_length is, List.length_set]
theorem Lfrz_at : ∀ (is : List Nat) (LL : Ow) (j : Nat), Lfrz LL is j = if j ∈ is then [] else LL j
  | [], LL, j => by simp [Lfrz]
  | i :: is, LL, j => by
    show Lfrz (Lset LL i []) is j = _
    rw [Lfrz_at is]
    by_cases h : j ∈ is
    · simp [h]
    · by_cases e : j = i
      · subst e; simp [h, Lset_same]
      · simp [h, e, Lset_ne e]
/-- nothing known of these slots -/
theorem Rel.kil (is : List Nat) {σ' : L2.St} (R : Rel K P S0 LL ρ σ H) (hl : σ'.length = σ.length) (hs : ∀ j, j ∉ is → σ'[j]? = σ[j]?) : Rel K P S0 (Lfrz LL is) (Uq.kil is ρ) σ' H where
  ln := by rw [kil_length, hl]; exact R.ln
  slot := fun j t e => by
    rw [Lfrz_at]
    by_cases h : j ∈ is
    · rw [if_pos h, (kil_get is ρ j).2 h t e]
      rfl
    · rw [(kil_get is ρ j).1 h] at e
      rw [if_neg h, hs j h]
      exact (R.slot j t e).mono (fun _ _ _ z => z.frz) (.of_same (Same.refl H)) fun _ _ => rfl
  dj := fun j k a h1 h2 => R.dj j k a (Lfrz_in h1).1 (Lfrz_in h2).1
  own := fun j a h => R.own j a (Lfrz_in h).1
  fr := R.fr
end
end Uq

set_option maxHeartbeats 1000000
/-! Uq, part f: the expressions' readings. -/
namespace Uq
open PySem PySem.Spec PyProof.Rows L2

section
variable (K : PySem.W.Frag) (P : Pg) (cl : Cl) (W : WX)
def tE (c : C) : TE := fun σ H Q => ∃ S0 LL ρ q e, Rel K P S0 LL ρ σ H ∧ wE cl c ρ q e ∧ (∀ d v H', Same H H' → Res K (NmS S0 LL (nms c)) H H' (fresh c) d v → q d → Q v H') ∧
  (∀ k fs cv dx H', Same H H' → XRp K P H' k fs cv dx → e k fs → W cv dx σ H')
def tEs (cs : List C) : TA := fun σ H Q => ∃ S0 LL ρ q e, Rel K P S0 LL ρ σ H ∧ wEs cl cs ρ q e ∧ (∀ ds vs H', Same H H' → Rps K (NmS S0 LL (nmsL cs)) H' ds vs → q ds → Q vs H') ∧
  (∀ k fs cv dx H', Same H H' → XRp K P H' k fs cv dx → e k fs → W cv dx σ H')
def tT (c : C) : TT := fun σ H Q => ∃ S0 LL ρ q e, Rel K P S0 LL ρ σ H ∧ wE cl c ρ q e ∧ (∀ d H', Same H H' → q d → truR d fun b => Q b H') ∧
  (∀ k fs cv dx H', Same H H' → XRp K P H' k fs cv dx → e k fs → W cv dx σ H')
end
theorem peI {X : Cx} {e : Expr} {t t' : TE} (h : PE X e t) (i : ∀ σ H Q, t' σ H Q → t σ H Q) : PE X e t' := ⟨fun pins s σ H Q I q => h.run pins s σ H Q I (i σ H Q q)⟩
theorem paI {X : Cx} {e : List Expr} {t t' : TA} (h : PA X e t) (i : ∀ σ H Q, t' σ H Q → t σ H Q) : PA X e t' := ⟨fun pos pins s σ H Q I q => h.run pos pins s σ H Q I (i σ H Q q)⟩
theorem ptI {X : Cx} {e : Expr} {t t' : TT} (h : PT X e t) (i : ∀ σ H Q, t' σ H Q → t σ H Q) : PT X e t' := ⟨fun pins s σ H Q I q => h.run pins s σ H Q I (i σ H Q q)⟩

section
variable {K : PySem.W.Frag} {P : Pg} {cl : Cl} {W : WX} {S0 : Addr → Prop} {LL : Ow} {ρ : Env} {σ : L2.St} {H H1 H2 H' : Hp} {S : Addr → Prop} {d : D} {v : V} {fr : Bool}
theorem Res.from (s : Same H H1) (h : Res K S H1 H' fr d v) : Res K S H H' fr d v := ⟨h.1, fun f ds e => let ⟨a, vs, e1, e2, r⟩ := h.2 f ds e; ⟨a, vs, e1, same_none s e2, r⟩⟩
theorem Res.any {fr' : Bool} (h : Res K S H H' true d v) : Res K S H H' fr' d v := ⟨h.1, fun _ ds e => h.2 rfl ds e⟩
theorem Res.sub {S' : Addr → Prop} (hS : ∀ a, S a → S' a) (h : Res K S H H' fr d v) : Res K S' H H' fr d v := ⟨h.1.wide fun a _ _ q => hS a q, fun f ds e =>
  let ⟨a, vs, e1, e2, e3, r⟩ := h.2 f ds e; ⟨a, vs, e1, e2, e3, r.wide fun b _ _ q => ⟨hS b q.1, q.2⟩⟩⟩
theorem Res.fls (h : Rp K S H' d v) : Res K S H H' false d v := ⟨h, fun f => nomatch f⟩
theorem Rel.nmF (R : Rel K P S0 LL ρ σ H) (s : Same H H1) {nm : List Nat} : ∀ a, H1 a = none → NmS S0 LL nm a := fun a h => by
  have h0 := same_none s h
  refine ⟨R.fr a h0, fun i hi => ?_⟩
  obtain ⟨_, xs, e⟩ := R.own i a hi
  rw [h0] at e; cases e
theorem sq_ {H0 H1 H2 : Hp} (a : Same H0 H1) (b : Same H1 H2) : Same H0 H2 := a.trans b
end

/-! ### names and constants -/
section
variable {X : Cx} {P : Pg} {cl : Cl} {W : WX}
theorem e_var {i : Nat} {x : Str} {pos : Pos} (hN : X.N[i]? = some x) (hv : Vis X.env.scope x) (hd : (x == ("__debug__" : Str)) = false) (hcd : (x == ("__classdict__" : Str)) = false) : PE X (.Name x pos) (tE X.K P cl W (.var i)) := by
  refine peI (pe_var hN hv hd hcd) fun σ H Q h => ?_
  obtain ⟨S0, LL, ρ, q, e, R, hw, hq, _⟩ := h
  unfold wE at hw
  cases q1 : ρ[i]? with
  | none => rw [q1] at hw; exact hw.elim
  | some s =>
    rw [q1] at hw
    have r := R.slot i s q1
    cases s with
    | no => exact hw.elim
    | xc c fs => exact hw.elim
    | dc t kvs => exact hw.elim
    | va d =>
      obtain ⟨_, y, ey, ry⟩ := r
      have es : σ[i]? = some (some y) := by
        cases q2 : σ[i]? with
        | none => rw [q2] at ey; cases ey
        | some w => rw [q2] at ey; exact congrArg some ey
      exact ⟨y, es, hq d y H (Same.refl H) (.fls (ry.wide fun _ _ _ z => z.nm)) hw⟩
    | nl dss =>
      obtain ⟨a, bs, ey, eL, nd, ha, ry⟩ := r
      have es : σ[i]? = some (some (.ref a)) := by
        cases q2 : σ[i]? with
        | none => rw [q2] at ey; cases ey
        | some w => rw [q2] at ey; exact congrArg some ey
      refine ⟨_, es, hq (.list (dss.map .list)) _ H (Same.refl H) (.fls ?_) hw⟩
      have own : ∀ b ∈ LL i, NmS S0 LL [i] b := fun b hb => ⟨(R.own i b hb).1, fun j hj => by
        rw [R.dj j i b hj hb]
        exact List.mem_cons_self⟩
      simp only [Rp]
      exact ⟨a, _, rfl, own a (by rw [eL]; exact List.mem_cons_self), ha, (ry.mono (fun _ _ _ z => z.nm) (.of_same (Same.refl H)) fun _ _ => rfl).shared fun b hb => own b (by rw [eL]; exact List.mem_cons_of_mem _ hb)⟩
    | ol ds =>
      obtain ⟨a, xs, ey, eL, ha, ry⟩ := r
      have es : σ[i]? = some (some (.ref a)) := by
        cases q2 : σ[i]? with
        | none => rw [q2] at ey; cases ey
        | some w => rw [q2] at ey; exact congrArg some ey
      refine ⟨_, es, hq (.list ds) _ H (Same.refl H) (.fls ?_) hw⟩
      have hm : a ∈ LL i := by rw [eL]; exact List.mem_cons_self
      simp only [Rp]
      refine ⟨a, xs, rfl, ⟨(R.own i a hm).1, fun j hj => ?_⟩, ha, ry.wide fun _ _ _ z => z.nm⟩
      rw [R.dj j i a hj hm]
      exact List.mem_cons_self
theorem e_int {i : Int} {j pos} : PE X (.Constant (.int i) j pos) (tE X.K P cl W (.int i)) := peI pe_int fun σ H Q ⟨S0, LL, ρ, q, e, R, hw, hq, _⟩ => hq _ _ H (Same.refl H) res_int hw
theorem e_bl {b : Bool} {j pos} : PE X (.Constant (.bool b) j pos) (tE X.K P cl W (.bl b)) := peI pe_bl fun σ H Q ⟨S0, LL, ρ, q, e, R, hw, hq, _⟩ => hq _ _ H (Same.refl H) res_bl hw
theorem e_non {j pos} : PE X (.Constant .none j pos) (tE X.K P cl W .non) := peI pe_non fun σ H Q ⟨S0, LL, ρ, q, e, R, hw, hq, _⟩ => hq _ _ H (Same.refl H) res_non hw
theorem e_str {x : Str} {j pos} : PE X (.Constant (.str x) j pos) (tE X.K P cl W (.str x)) := peI pe_str fun σ H Q ⟨S0, LL, ρ, q, e, R, hw, hq, _⟩ => hq _ _ H (Same.refl H) res_str hw

/-! ### operators -/
variable {a' b' c' : Expr} {a b c : C} {pos : Pos}
theorem inl_ {l m : List Nat} : ∀ i ∈ l, i ∈ l ++ m := fun i h => List.mem_append_left _ h
theorem inr_ {l m : List Nat} : ∀ i ∈ m, i ∈ l ++ m := fun i h => List.mem_append_right _ h
/-- two parts, one behind the other -/
theorem two {K : PySem.W.Frag} {σ : L2.St} {H : Hp} {S0 : Addr → Prop} {LL : Ow} {ρ : Env} {q : D → D → Prop} {e : Ex} {Qf : V → V → Hp → Prop} (R : Rel K P S0 LL ρ σ H)
    (hw : wE cl a ρ (fun x => wE cl b ρ (fun y => q x y) e) e) (he : ∀ k fs cv dx H', Same H H' → XRp K P H' k fs cv dx → e k fs → W cv dx σ H')
    (hq : ∀ dx dy x y H', Same H H' → Rp K (NmS S0 LL (nms a ++ nms b)) H' dx x → Rp K (NmS S0 LL (nms a ++ nms b)) H' dy y → q dx dy → Qf x y H') :
    tE K P cl W a σ H fun x H1 => tE K P cl W b σ H1 fun y H2 => Qf x y H2 :=
  ⟨S0, LL, ρ, _, e, R, hw, fun d v H1 s1 r1 h1 => ⟨S0, LL, ρ, _, e, R.same s1, h1, fun d2 v2 H2 s2 r2 h2 =>
    hq d d2 v v2 H2 (sq_ s1 s2) ((r1.1.wide fun _ _ _ z => z.sub inl_).same s2) (r2.1.wide fun _ _ _ z => z.sub inr_) h2, fun k fs cv dx H' s2 x h => he k fs cv dx H' (sq_ s1 s2) x h⟩, he⟩
theorem e_bin {o : Bo} (ha : PE X a' (tE X.K P cl W a)) (hb : PE X b' (tE X.K P cl W b)) : PE X (.BinOp a' (toOp o) b' pos) (tE X.K P cl W (.bin o a b)) := by
  refine peI (pe_op (opBin o) ha hb) fun σ H Q ⟨S0, LL, ρ, q, e, R, hw, hq, he⟩ => ?_
  refine two R hw he fun dx dy x y H' s rx ry hb => ⟨_, dx, dy, q, rx, ry, R.nmF s, hb, fun d v H2 s2 r hd => ?_⟩
  exact hq d v H2 (sq_ s s2) (Res.from s r).any hd
theorem e_cmp {o : Co} (hu : X.A.units + 64 < cLine) (ha : PE X a' (tE X.K P cl W a)) (hb : PE X b' (tE X.K P cl W b)) : PE X (.Compare a' [toCo o] [b'] pos) (tE X.K P cl W (.cmp o a b)) := by
  refine peI (pe_cmpR (opCmp hu o) ha hb (nobehind _ (toCo_in o).1 (toCo_in o).2)) fun σ H Q ⟨S0, LL, ρ, q, e, R, hw, hq, he⟩ => ?_
  exact two R hw he fun dx dy x y H' s rx ry hb => ⟨_, dx, dy, q, rx, ry, hb, fun k hk => hq _ _ H' s res_bl hk⟩
theorem t_cmp {o : Co} (hu : X.A.units + 64 < cLine) (ha : PE X a' (tE X.K P cl W a)) (hb : PE X b' (tE X.K P cl W b)) : PT X (.Compare a' [toCo o] [b'] pos) (tT X.K P cl W (.cmp o a b)) := by
  refine ptI (pt_cmpR (opCmp hu o) ha hb (nobehind _ (toCo_in o).1 (toCo_in o).2)) fun σ H Q ⟨S0, LL, ρ, q, e, R, hw, hq, he⟩ => ?_
  exact two R hw he fun dx dy x y H' s rx ry hb => ⟨_, dx, dy, _, rx, ry, hb, fun k hk => ⟨k, rfl, hq _ H' s hk⟩⟩
theorem chn_read {K : PySem.W.Frag} {o o' : Co} {σ : L2.St} {H : Hp} {S0 : Addr → Prop} {LL : Ow} {ρ : Env} {q : QD} {e : Ex} {Q : VK} (R : Rel K P S0 LL ρ σ H) (hw : wE cl (.chn o o' a b c) ρ q e)
    (he : ∀ k fs cv dx H', Same H H' → XRp K P H' k fs cv dx → e k fs → W cv dx σ H') (hq : ∀ k H', Same H H' → q (.bool k) → Q (.bl k) H') :
    tChain (rCmp K o) (rCmp K o') (tE K P cl W a) (tE K P cl W b) (tE K P cl W c) σ H Q := by
  refine ⟨S0, LL, ρ, _, e, R, hw, fun dx x H1 s1 r1 h1 => ⟨S0, LL, ρ, _, e, R.same s1, h1, fun dy y H2 s2 r2 h2 => ?_, fun k fs cv dx H' s2 x h => he k fs cv dx H' (sq_ s1 s2) x h⟩, he⟩
  have rx : Rp K (NmS S0 LL (nms a ++ (nms b ++ nms c))) H2 dx x := (r1.1.wide fun _ _ _ z => z.sub inl_).same s2
  have ry : Rp K (NmS S0 LL (nms a ++ (nms b ++ nms c))) H2 dy y := r2.1.wide fun _ _ _ z => z.sub fun i h => inr_ i (inl_ i h)
  refine ⟨_, dx, dy, _, rx, ry, h2, fun k hk => ⟨k, rfl, ?_⟩⟩
  cases k with
  | false => exact hq false H2 (sq_ s1 s2) hk
  | true =>
    refine ⟨S0, LL, ρ, _, e, R.same (sq_ s1 s2), hk, fun du u H3 s3 r3 h3 => ?_, fun k fs cv dx H' s3 x h => he k fs cv dx H' (sq_ (sq_ s1 s2) s3) x h⟩
    have ru : Rp K (NmS S0 LL (nms a ++ (nms b ++ nms c))) H3 du u := r3.1.wide fun _ _ _ z => z.sub fun i h => inr_ i (inr_ i h)
    exact ⟨_, dy, du, q, ry.same s3, ru, h3, fun k' hk' => hq k' H3 (sq_ (sq_ s1 s2) s3) hk'⟩
theorem e_chn {o o' : Co} (hu : X.A.units + 64 < cLine) (ha : PE X a' (tE X.K P cl W a)) (hb : PE X b' (tE X.K P cl W b)) (hc : PE X c' (tE X.K P cl W c)) (hm : behindInMarks (toCo o') c' = false) :
    PE X (.Compare a' [toCo o, toCo o'] [b', c'] pos) (tE X.K P cl W (.chn o o' a b c)) :=
  peI (pe_chain (opCmp hu o) (opCmp hu o') ha hb hc (show behindInMarks (toCo o') c' = false from hm)) fun σ H Q ⟨S0, LL, ρ, q, e, R, hw, hq, he⟩ => chn_read R hw he fun k H' s h => hq _ _ H' s res_bl h
theorem t_chn {o o' : Co} (hu : X.A.units + 64 < cLine) (ha : PE X a' (tE X.K P cl W a)) (hb : PE X b' (tE X.K P cl W b)) (hc : PE X c' (tE X.K P cl W c)) (hm : behindInMarks (toCo o') c' = false) :
    PT X (.Compare a' [toCo o, toCo o'] [b', c'] pos) (tT X.K P cl W (.chn o o' a b c)) :=
  ptI (pt_chain (opCmp hu o) (opCmp hu o') ha hb hc (show behindInMarks (toCo o') c' = false from hm)) fun σ H Q ⟨S0, LL, ρ, q, e, R, hw, hq, he⟩ =>
    chn_read (Q := fun x H' => ∃ k, x = .bl k ∧ Q k H') R hw he fun k H' s h => ⟨k, rfl, hq _ H' s h⟩
/-- a op1 b op2 c op3 d -/
def tChain3 (r r' r2 : R2) (ta tb tc td : TE) : TE := fun σ H Q => ta σ H fun x H1 => tb σ H1 fun y H2 => r x y H2 fun z H3 => ∃ k, z = .bl k ∧
  (if k = true then tc σ H3 fun u H4 => r' y u H4 fun z H5 => ∃ k, z = .bl k ∧ (if k = true then td σ H5 fun v H6 => r2 u v H6 Q else Q (.bl false) H5) else Q (.bl false) H3)
theorem pe_chain3 {op op' op2 : CmpOp} {r r' r2 : R2} {ta tb tc td : TE} {d' : Expr} (ho : OpR X (compareOp op) r) (ho' : OpR X (compareOp op') r') (ho2 : OpR X (compareOp op2) r2) (ha : PE X a' ta) (hb : PE X b' tb) (hc : PE X c' tc) (hd : PE X d' td)
    (hm : lastMarks [op, op', op2] [b', c', d'] = false) : PE X (.Compare a' [op, op', op2] [b', c', d'] pos) (tChain3 r r' r2 ta tb tc td) := by
  refine ⟨fun pins s σ H Q I h => ?_⟩
  refine Compare_chain (thn (ha.run pins s σ H _ I h) fun v s1 ⟨x, H1, I1, r1, q1⟩ => chain_link (thn (hb.run pins s1 σ H1 _ I1 q1) fun u s2 ⟨y, H2, I2, r2, q2⟩ =>
    thn (ho pins s2 σ H2 x y v u _ I2 r1 r2 q2) fun d s3 ⟨z, H3, I3, r3, k, e, q3⟩ => ?_)) hm
  subst e
  cases r3
  refine wpAny_truthy_bool ?_
  cases k with
  | false => exact ite_ff ⟨.bl false, H3, I3, rfl, q3⟩
  | true =>
    refine ite_tt (chain_link (thn (hc.run pins s3 σ H3 _ I3 q3) fun w' s4 ⟨z', H4, I4, r4, q4⟩ => thn (ho' pins s4 σ H4 y z' u w' _ I4 r2 r4 q4) fun d2 s5 ⟨z2, H5, I5, r5, k2, e2, q5⟩ => ?_))
    subst e2
    cases r5
    refine wpAny_truthy_bool ?_
    cases k2 with
    | false => exact ite_ff ⟨.bl false, H5, I5, rfl, q5⟩
    | true => exact ite_tt (chain_last (thn (hd.run pins s5 σ H5 _ I5 q5) fun w3 s6 ⟨z3, H6, I6, r6, q6⟩ => ho2 pins s6 σ H6 z' z3 w' w3 Q I6 r4 r6 q6))
theorem pt_chain3 {op op' op2 : CmpOp} {r r' r2 : R2} {ta tb tc td : TE} {d' : Expr} (ho : OpR X (compareOp op) r) (ho' : OpR X (compareOp op') r') (ho2 : OpR X (compareOp op2) r2) (ha : PE X a' ta) (hb : PE X b' tb) (hc : PE X c' tc) (hd : PE X d' td)
    (hm : lastMarks [op, op', op2] [b', c', d'] = false) : PT X (.Compare a' [op, op', op2] [b', c', d'] pos) (tTest (tChain3 r r' r2 ta tb tc td)) := by
  refine ⟨fun pins s σ H Q I h => ?_⟩
  refine isTrue_chain (thn (ha.run pins s σ H _ I h) fun v s1 ⟨x, H1, I1, r1, q1⟩ => test_link (thn (hb.run pins s1 σ H1 _ I1 q1) fun u s2 ⟨y, H2, I2, r2, q2⟩ =>
    thn (ho pins s2 σ H2 x y v u _ I2 r1 r2 q2) fun d s3 ⟨z, H3, I3, r3, k, e, q3⟩ => ?_)) hm
  subst e
  cases r3
  refine wpAny_truthy_bool ?_
  cases k with
  | false =>
    obtain ⟨k', e', q'⟩ := q3
    cases e'
    exact ite_ff ⟨H3, I3, q'⟩
  | true =>
    refine ite_tt (test_link (thn (hc.run pins s3 σ H3 _ I3 q3) fun w' s4 ⟨z', H4, I4, r4, q4⟩ => thn (ho' pins s4 σ H4 y z' u w' _ I4 r2 r4 q4) fun d2 s5 ⟨z2, H5, I5, r5, k2, e2, q5⟩ => ?_))
    subst e2
    cases r5
    refine wpAny_truthy_bool ?_
    cases k2 with
    | false =>
      obtain ⟨k', e', q'⟩ := q5
      cases e'
      exact ite_ff ⟨H5, I5, q'⟩
    | true =>
      refine ite_tt (test_last (thn (hd.run pins s5 σ H5 _ I5 q5) fun w3 s6 ⟨z3, H6, I6, r6, q6⟩ => thn (ho2 pins s6 σ H6 z' z3 w' w3 _ I6 r4 r6 q6) fun d3 s7 ⟨z4, H7, I7, r7, k3, e3, q7⟩ => ?_))
      subst e3
      cases r7
      exact wpAny_truthy_bool ⟨H7, I7, q7⟩
theorem chn3_read {K : PySem.W.Frag} {o o' o2 : Co} {d : C} {σ : L2.St} {H : Hp} {S0 : Addr → Prop} {LL : Ow} {ρ : Env} {q : QD} {e : Ex} {Q : VK} (R : Rel K P S0 LL ρ σ H) (hw : wE cl (.chn3 o o' o2 a b c d) ρ q e)
    (he : ∀ k fs cv dx H', Same H H' → XRp K P H' k fs cv dx → e k fs → W cv dx σ H') (hq : ∀ k H', Same H H' → q (.bool k) → Q (.bl k) H') :
    tChain3 (rCmp K o) (rCmp K o') (rCmp K o2) (tE K P cl W a) (tE K P cl W b) (tE K P cl W c) (tE K P cl W d) σ H Q := by
  refine ⟨S0, LL, ρ, _, e, R, hw, fun dx x H1 s1 r1 h1 => ⟨S0, LL, ρ, _, e, R.same s1, h1, fun dy y H2 s2 r2 h2 => ?_, fun k fs cv dx H' s2 x h => he k fs cv dx H' (sq_ s1 s2) x h⟩, he⟩
  have rx : Rp K (fun _ => True) H2 dx x := (r1.1.wide fun _ _ _ _ => trivial).same s2
  have ry : Rp K (fun _ => True) H2 dy y := r2.1.wide fun _ _ _ _ => trivial
  refine ⟨_, dx, dy, _, rx, ry, h2, fun k hk => ⟨k, rfl, ?_⟩⟩
  cases k with
  | false => exact hq false H2 (sq_ s1 s2) hk
  | true =>
    refine ⟨S0, LL, ρ, _, e, R.same (sq_ s1 s2), hk, fun du u H3 s3 r3 h3 => ?_, fun k fs cv dx H' s3 x h => he k fs cv dx H' (sq_ (sq_ s1 s2) s3) x h⟩
    have ru : Rp K (fun _ => True) H3 du u := r3.1.wide fun _ _ _ _ => trivial
    refine ⟨_, dy, du, _, ry.same s3, ru, h3, fun k hk => ⟨k, rfl, ?_⟩⟩
    cases k with
    | false => exact hq false H3 (sq_ (sq_ s1 s2) s3) hk
    | true =>
      refine ⟨S0, LL, ρ, _, e, R.same (sq_ (sq_ s1 s2) s3), hk, fun dv v H4 s4 r4 h4 => ?_, fun k fs cv dx H' s4 x h => he k fs cv dx H' (sq_ (sq_ (sq_ s1 s2) s3) s4) x h⟩
      exact ⟨_, du, dv, q, ru.same s4, r4.1.wide fun _ _ _ _ => trivial, h4, fun k' hk' => hq k' H4 (sq_ (sq_ (sq_ s1 s2) s3) s4) hk'⟩
theorem e_chn3 {o o' o2 : Co} {d : C} {d' : Expr} (hu : X.A.units + 64 < cLine) (ha : PE X a' (tE X.K P cl W a)) (hb : PE X b' (tE X.K P cl W b)) (hc : PE X c' (tE X.K P cl W c)) (hd : PE X d' (tE X.K P cl W d)) (hm : behindInMarks (toCo o2) d' = false) :
    PE X (.Compare a' [toCo o, toCo o', toCo o2] [b', c', d'] pos) (tE X.K P cl W (.chn3 o o' o2 a b c d)) :=
  peI (pe_chain3 (opCmp hu o) (opCmp hu o') (opCmp hu o2) ha hb hc hd (show behindInMarks (toCo o2) d' = false from hm)) fun σ H Q ⟨S0, LL, ρ, q, e, R, hw, hq, he⟩ => chn3_read R hw he fun k H' s h => hq _ _ H' s res_bl h
theorem t_chn3 {o o' o2 : Co} {d : C} {d' : Expr} (hu : X.A.units + 64 < cLine) (ha : PE X a' (tE X.K P cl W a)) (hb : PE X b' (tE X.K P cl W b)) (hc : PE X c' (tE X.K P cl W c)) (hd : PE X d' (tE X.K P cl W d)) (hm : behindInMarks (toCo o2) d' = false) :
    PT X (.Compare a' [toCo o, toCo o', toCo o2] [b', c', d'] pos) (tT X.K P cl W (.chn3 o o' o2 a b c d)) :=
  ptI (pt_chain3 (opCmp hu o) (opCmp hu o') (opCmp hu o2) ha hb hc hd (show behindInMarks (toCo o2) d' = false from hm)) fun σ H Q ⟨S0, LL, ρ, q, e, R, hw, hq, he⟩ =>
    chn3_read (Q := fun x H' => ∃ k, x = .bl k ∧ Q k H') R hw he fun k H' s h => ⟨k, rfl, hq _ H' s h⟩
/-- one part -/
theorem one {K : PySem.W.Frag} {σ : L2.St} {H : Hp} {S0 : Addr → Prop} {LL : Ow} {ρ : Env} {q : QD} {e : Ex} {Qf : V → Hp → Prop} (R : Rel K P S0 LL ρ σ H) (hw : wE cl a ρ q e)
    (he : ∀ k fs cv dx H', Same H H' → XRp K P H' k fs cv dx → e k fs → W cv dx σ H') (hq : ∀ d x H', Same H H' → Rp K (NmS S0 LL (nms a)) H' d x → q d → Qf x H') : tE K P cl W a σ H Qf :=
  ⟨S0, LL, ρ, _, e, R, hw, fun d v H1 s1 r1 h1 => hq d v H1 s1 r1.1 h1, he⟩
theorem e_neg (ha : PE X a' (tE X.K P cl W a)) : PE X (.UnaryOp .USub a' pos) (tE X.K P cl W (.neg a)) := by
  refine peI (pe_un un_neg ha) fun σ H Q ⟨S0, LL, ρ, q, e, R, hw, hq, he⟩ => one R hw he fun d x H' s r h => ?_
  cases d <;> first | exact h.elim | skip
  have ex := r.int_; subst ex
  exact ⟨_, rfl, hq _ _ H' s res_int h⟩
theorem e_not (ha : PE X a' (tE X.K P cl W a)) : PE X (.UnaryOp .Not a' pos) (tE X.K P cl W (.not a)) := by
  refine peI (pe_notT ha) fun σ H Q ⟨S0, LL, ρ, q, e, R, hw, hq, he⟩ => one R hw he fun d x H' s r h => ?_
  obtain ⟨k, e1, h1⟩ := tru_of r h
  exact ⟨k, e1, hq _ _ H' s res_bl h1⟩
theorem truR_mono {d : D} {Q Q' : Bool → Prop} (h : truR d Q) (i : ∀ b, Q b → Q' b) : truR d Q' := by
  cases d <;> first | exact i _ h | exact ⟨h.1, i _ h.2⟩ | exact h
theorem truR_if {d : D} {A B : Prop} {Cc : Bool → Prop} {A' : Prop} (h : truR d fun t => if t = true then A else B) (ha : A → A') (hb : B → truR d fun b => Cc b) : truR d fun t => if t = true then A' else Cc false := by
  have key : ∀ k : Bool, (if k = true then A else B) → (k = false → B → Cc false) → (if k = true then A' else Cc false) := fun k h1 h2 => by
    cases k with
    | true => exact ha h1
    | false => exact h2 rfl h1
  cases d with
  | none => exact key false h fun _ z => hb z
  | bool b => exact key b h fun e z => by have := hb z; rw [show truR (.bool b) (fun b => Cc b) = Cc b from rfl, e] at this; exact this
  | int i => exact key _ h fun e z => by have := hb z; rw [show truR (.int i) (fun b => Cc b) = Cc (i != 0) from rfl, e] at this; exact this
  | str x => exact ⟨h.1, key _ h.2 fun e z => by have := (hb z).2; simp only [e] at this; exact this⟩
  | list ds => exact key _ h fun e z => by have := hb z; rw [show truR (.list ds) (fun b => Cc b) = Cc (!ds.isEmpty) from rfl, e] at this; exact this
  | tuple ds => exact key _ h fun e z => by have := hb z; rw [show truR (.tuple ds) (fun b => Cc b) = Cc (!ds.isEmpty) from rfl, e] at this; exact this
  | dict k => exact h
theorem truR_if2 {d : D} {A B : Prop} {Cc : Bool → Prop} {A' : Prop} (h : truR d fun t => if t = true then A else B) (hb : B → A') (ha : A → truR d fun b => Cc b) : truR d fun t => if t = true then Cc true else A' := by
  have key : ∀ k : Bool, (if k = true then A else B) → (k = true → A → Cc true) → (if k = true then Cc true else A') := fun k h1 h2 => by
    cases k with
    | false => exact hb h1
    | true => exact h2 rfl h1
  cases d with
  | none => exact key false h fun q _ => nomatch q
  | bool b => exact key b h fun e z => by have := ha z; rw [show truR (.bool b) (fun b => Cc b) = Cc b from rfl, e] at this; exact this
  | int i => exact key _ h fun e z => by have := ha z; rw [show truR (.int i) (fun b => Cc b) = Cc (i != 0) from rfl, e] at this; exact this
  | str x => exact ⟨h.1, key _ h.2 fun e z => by have := (ha z).2; simp only [e] at this; exact this⟩
  | list ds => exact key _ h fun e z => by have := ha z; rw [show truR (.list ds) (fun b => Cc b) = Cc (!ds.isEmpty) from rfl, e] at this; exact this
  | tuple ds => exact key _ h fun e z => by have := ha z; rw [show truR (.tuple ds) (fun b => Cc b) = Cc (!ds.isEmpty) from rfl, e] at this; exact this
  | dict k => exact h
theorem t_not (ha : PT X a' (tT X.K P cl W a)) : PT X (.UnaryOp .Not a' pos) (tT X.K P cl W (.not a)) := by
  refine ptI (pt_not ha) fun σ H Q ⟨S0, LL, ρ, q, e, R, hw, hq, he⟩ => ⟨S0, LL, ρ, _, e, R, hw, fun d H' s h => truR_mono h fun b h => hq (.bool (!b)) H' s h, he⟩
variable {y' : Expr} {r' : List Expr}
theorem e_and (ha : PE X a' (tE X.K P cl W a)) (hb : PE X (.BoolOp .And (y' :: r') pos) (tE X.K P cl W b)) : PE X (.BoolOp .And (a' :: y' :: r') pos) (tE X.K P cl W (.and a b)) := by
  refine peI (pe_andT ha hb) fun σ H Q ⟨S0, LL, ρ, q, e, R, hw, hq, he⟩ => one R hw he fun d x H' s r h => ?_
  obtain ⟨k, e1, h1⟩ := tru_of r h
  refine ⟨k, e1, ?_⟩
  cases k with
  | true => exact ⟨S0, LL, ρ, _, e, R.same s, h1, fun d v H2 s2 r2 h2 => hq d v H2 (sq_ s s2) (.fls (r2.1.wide fun _ _ _ z => z.sub inr_)) h2, fun k fs cv dx H' s2 x h => he k fs cv dx H' (sq_ s s2) x h⟩
  | false => exact hq d x H' s (.fls (r.wide fun _ _ _ z => z.sub inl_)) h1
theorem e_or (ha : PE X a' (tE X.K P cl W a)) (hb : PE X (.BoolOp .Or (y' :: r') pos) (tE X.K P cl W b)) : PE X (.BoolOp .Or (a' :: y' :: r') pos) (tE X.K P cl W (.or a b)) := by
  refine peI (pe_orT ha hb) fun σ H Q ⟨S0, LL, ρ, q, e, R, hw, hq, he⟩ => one R hw he fun d x H' s r h => ?_
  obtain ⟨k, e1, h1⟩ := tru_of r h
  refine ⟨k, e1, ?_⟩
  cases k with
  | false => exact ⟨S0, LL, ρ, _, e, R.same s, h1, fun d v H2 s2 r2 h2 => hq d v H2 (sq_ s s2) (.fls (r2.1.wide fun _ _ _ z => z.sub inr_)) h2, fun k fs cv dx H' s2 x h => he k fs cv dx H' (sq_ s s2) x h⟩
  | true => exact hq d x H' s (.fls (r.wide fun _ _ _ z => z.sub inl_)) h1
theorem t_and (ha : PT X a' (tT X.K P cl W a)) (hb : PW X (.BoolOp .And (y' :: r') pos) (tT X.K P cl W b)) : PW X (.BoolOp .And (a' :: y' :: r') pos) (tT X.K P cl W (.and a b)) := by
  refine ⟨fun wh pins s σ H Q I q => (pw_and ha hb).run wh pins s σ H Q I ?_⟩
  obtain ⟨S0, LL, ρ, q, e, R, hw, hq, he⟩ := q
  exact ⟨S0, LL, ρ, _, e, R, hw, fun d H' s h => truR_if h (fun h1 => ⟨S0, LL, ρ, _, e, R.same s, h1, fun d H2 s2 h2 => hq d H2 (sq_ s s2) h2, fun k fs cv dx H' s2 x h => he k fs cv dx H' (sq_ s s2) x h⟩) fun h1 => hq d H' s h1, he⟩
theorem t_or (ha : PT X a' (tT X.K P cl W a)) (hb : PW X (.BoolOp .Or (y' :: r') pos) (tT X.K P cl W b)) : PW X (.BoolOp .Or (a' :: y' :: r') pos) (tT X.K P cl W (.or a b)) := by
  refine ⟨fun wh pins s σ H Q I q => (pw_or ha hb).run wh pins s σ H Q I ?_⟩
  obtain ⟨S0, LL, ρ, q, e, R, hw, hq, he⟩ := q
  exact ⟨S0, LL, ρ, _, e, R, hw, fun d H' s h => truR_if2 h (fun h1 => ⟨S0, LL, ρ, _, e, R.same s, h1, fun d H2 s2 h2 => hq d H2 (sq_ s s2) h2, fun k fs cv dx H' s2 x h => he k fs cv dx H' (sq_ s s2) x h⟩) fun h1 => hq d H' s h1, he⟩
/-- a test by truth -/
theorem t_of (ha : PE X a' (tE X.K P cl W a)) (he : ∀ whole, isTrue a' X.env whole = (do let v ← whole; standAt a'.pos; holding [v] (truthy v))) : PT X a' (tT X.K P cl W a) :=
  ptI (pt_truth ha he) fun σ H Q ⟨S0, LL, ρ, q, e, R, hw, hq, hE⟩ => one R hw hE fun d x H' s r h => tru_of r (hq d H' s h)
theorem e_ite (hc : PT X c' (tT X.K P cl W c)) (ha : PE X a' (tE X.K P cl W a)) (hb : PE X b' (tE X.K P cl W b)) : PE X (.IfExp c' a' b' pos) (tE X.K P cl W (.ite c a b)) := by
  refine peI (pe_ifExp hc ha hb) fun σ H Q ⟨S0, LL, ρ, q, e, R, hw, hq, he⟩ => ?_
  refine ⟨S0, LL, ρ, _, e, R, hw, fun d H1 s1 h1 => truR_mono h1 fun k hk => ?_, he⟩
  have fr : ∀ {f g : Bool} {S : Addr → Prop} {H H' : Hp} {d : D} {v : V}, (f = true → g = true) → Res X.K S H H' g d v → Res X.K S H H' f d v := fun i r => ⟨r.1, fun z => r.2 (i z)⟩
  cases k with
  | true =>
    exact ⟨S0, LL, ρ, _, e, R.same s1, hk, fun d v H2 s2 r2 h2 => hq d v H2 (sq_ s1 s2) (fr (fun z => (Bool.and_eq_true_iff.mp (show (fresh a && fresh b) = true from z)).1) ((Res.from s1 r2).sub fun _ z => z.sub fun i h => inr_ i (inl_ i h))) h2,
      fun k fs cv dx H' s2 x h => he k fs cv dx H' (sq_ s1 s2) x h⟩
  | false =>
    exact ⟨S0, LL, ρ, _, e, R.same s1, hk, fun d v H2 s2 r2 h2 => hq d v H2 (sq_ s1 s2) (fr (fun z => (Bool.and_eq_true_iff.mp (show (fresh a && fresh b) = true from z)).2) ((Res.from s1 r2).sub fun _ z => z.sub fun i h => inr_ i (inr_ i h))) h2,
      fun k fs cv dx H' s2 x h => he k fs cv dx H' (sq_ s1 s2) x h⟩

/-! ### is, in -/
theorem is_non {K : PySem.W.Frag} {S : Addr → Prop} {H : Hp} {d : D} {x : V} (h : Rp K S H d x) : decide (x = .non) = isNon d := by
  cases d with
  | none => have e := h.non_; subst e; rfl
  | bool b => have e := h.bl_; subst e; rfl
  | int b => have e := h.int_; subst e; rfl
  | str b => have e := h.str_; subst e; rfl
  | list ds => obtain ⟨a, xs, rfl, _⟩ := h.lst_; rfl
  | tuple ds => obtain ⟨a, xs, rfl, _⟩ := h.tup_; rfl
  | dict ds => obtain ⟨a, xs, rfl, _⟩ := h.dic_; rfl
theorem e_isN {n : Bool} {j : Nat} {p2 : Pos} (ha : PE X a' (tE X.K P cl W a)) : PE X (.Compare a' [if n = true then .IsNot else .Is] [.Constant .none j p2] pos) (tE X.K P cl W (.isN n a)) := by
  cases n with
  | false => exact peI (pe_cmpR op_isN ha pe_non (nomark _)) fun σ H Q ⟨S0, LL, ρ, q, e, R, hw, hq, he⟩ => one R hw he fun d x H' s r h => ⟨rfl, by rw [is_non r]; exact hq _ _ H' s res_bl (by simpa using h)⟩
  | true => exact peI (pe_cmpR op_notN ha pe_non (nomark _)) fun σ H Q ⟨S0, LL, ρ, q, e, R, hw, hq, he⟩ => one R hw he fun d x H' s r h => ⟨rfl, by rw [is_non r]; exact hq _ _ H' s res_bl (by simpa using h)⟩
theorem t_isN {n : Bool} {j : Nat} {p2 : Pos} (ha : PE X a' (tE X.K P cl W a)) : PT X (.Compare a' [if n = true then .IsNot else .Is] [.Constant .none j p2] pos) (tT X.K P cl W (.isN n a)) := by
  cases n with
  | false => exact ptI (pt_cmpR op_isN ha pe_non (nomark _)) fun σ H Q ⟨S0, LL, ρ, q, e, R, hw, hq, he⟩ => one R hw he fun d x H' s r h => ⟨rfl, _, rfl, by rw [is_non r]; have := hq _ H' s h; simpa [truR] using this⟩
  | true => exact ptI (pt_cmpR op_notN ha pe_non (nomark _)) fun σ H Q ⟨S0, LL, ρ, q, e, R, hw, hq, he⟩ => one R hw he fun d x H' s r h => ⟨rfl, _, rfl, by rw [is_non r]; have := hq _ H' s h; simpa [truR] using this⟩
/-- x is b -/
def rIsBl (K : PySem.W.Frag) (n b : Bool) : R2 := fun x y H Q => ∃ (S : Addr → Prop) (d : D), Rp K S H d x ∧ y = .bl b ∧ Q (.bl (isBv b d != n)) H
theorem op_isBD {n b : Bool} : OpR X (compareOp (if n = true then .IsNot else .Is)) (rIsBl X.K n b) := by
  intro pins s σ H x y v u Q I rx ry h
  obtain ⟨S, d, hx, rfl, q⟩ := h
  cases (show u = Value.bool b from ry)
  have go : PySem.plainIs v (.bool b) = true → (v == Value.bool b) = isBv b d → wpAny (model X.prog X.w) X.A (compareOp (if n = true then .IsNot else .Is) v (.bool b)) (EP X pins σ Q) X.xe s := fun hp ek => by
    cases n with
    | false => exact wpAny_is_plain hp ⟨.bl (isBv b d), H, I, by rw [ek]; rfl, by simpa using q⟩
    | true => exact wpAny_isNot_plain hp ⟨.bl (!isBv b d), H, I, by rw [ek]; rfl, by simpa using q⟩
  cases d with
  | none =>
    have e := hx.non_; subst e
    cases (show v = Value.none from rx)
    exact go rfl rfl
  | bool c =>
    have e := hx.bl_; subst e
    cases (show v = Value.bool c from rx)
    exact go rfl (by cases c <;> cases b <;> rfl)
  | int i =>
    have e := hx.int_; subst e
    obtain ⟨t, rfl⟩ := (show ∃ t, v = Value.int i t from rx)
    exact go rfl rfl
  | str i =>
    have e := hx.str_; subst e
    obtain ⟨t, rfl⟩ := (show ∃ t, v = Value.str i t from rx)
    exact go rfl rfl
  | list ds =>
    obtain ⟨a, xs, rfl, _⟩ := hx.lst_
    cases (show v = Value.ref a from rx)
    exact go rfl rfl
  | tuple ds =>
    obtain ⟨a, xs, rfl, _⟩ := hx.tup_
    cases (show v = Value.ref a from rx)
    exact go rfl rfl
  | dict ds =>
    obtain ⟨a, xs, rfl, _⟩ := hx.dic_
    cases (show v = Value.ref a from rx)
    exact go rfl rfl
theorem e_isB {n b : Bool} {j : Nat} {p2 : Pos} (ha : PE X a' (tE X.K P cl W a)) : PE X (.Compare a' [if n = true then .IsNot else .Is] [.Constant (.bool b) j p2] pos) (tE X.K P cl W (.isB n b a)) :=
  peI (pe_cmpR op_isBD ha pe_bl (by cases n <;> exact nomark _)) fun σ H Q ⟨S0, LL, ρ, q, e, R, hw, hq, he⟩ => one R hw he fun d x H' s r h => ⟨_, d, r, rfl, hq _ _ H' s res_bl h⟩
theorem t_isB {n b : Bool} {j : Nat} {p2 : Pos} (ha : PE X a' (tE X.K P cl W a)) : PT X (.Compare a' [if n = true then .IsNot else .Is] [.Constant (.bool b) j p2] pos) (tT X.K P cl W (.isB n b a)) :=
  ptI (pt_cmpR op_isBD ha pe_bl (by cases n <;> exact nomark _)) fun σ H Q ⟨S0, LL, ρ, q, e, R, hw, hq, he⟩ => one R hw he fun d x H' s r h => ⟨_, d, r, rfl, _, rfl, hq _ H' s h⟩
def rMem (K : PySem.W.Frag) (n : Bool) : R2 := fun x y H Q => ∃ (S : Addr → Prop) (dx dy : D), Rp K S H dx x ∧ Rp K S H dy y ∧ memR dx dy fun k => Q (.bl (k != n)) H
theorem op_memD (hu : X.A.units + 66 < cLine) {n : Bool} : OpR X (compareOp (if n = true then .NotIn else .In)) (rMem X.K n) := by
  intro pins s σ H x y v u Q I rx ry h
  obtain ⟨S, dx, dy, hx, hy, q⟩ := h
  unfold memR at q
  split at q
  · rename_i ds
    obtain ⟨⟨s1, s2⟩, q⟩ := q
    cases n with
    | false => exact op_inD (by omega) pins s σ H x y v u Q I rx ry ⟨dx, ds, hx.dp _ _ s1, hy.dp _ _ s2, s1, s2, by simpa using q⟩
    | true => exact op_notInD (by omega) pins s σ H x y v u Q I rx ry ⟨dx, ds, hx.dp _ _ s1, hy.dp _ _ s2, s1, s2, by simpa using q⟩
  · rename_i ds
    obtain ⟨⟨s1, s2⟩, q⟩ := q
    obtain ⟨as, r1⟩ := Dp.reads I dx x v (hx.dp _ _ s1) rx
    obtain ⟨bs, r2⟩ := Dp.reads I (.tuple ds) y u (hy.dp _ _ s2) ry
    have l2 : PyData.canLayAll0 ds = true := SeqAt.canLay_of_shaped s2
    have l1 := SeqAt.canLay_of_shaped s1
    have d1 := SeqAt.depth_of_shaped s1
    have m1 := Nat.min_le_right (PyData.depthAll ds) dx.depth
    cases n with
    | false => exact SeqAt.in_tuple_reads r2 r1 l2 l1 (by omega) ⟨.bl _, H, I, rfl, by simpa using q⟩
    | true => exact SeqAt.notIn_tuple_reads r2 r1 l2 l1 (by omega) ⟨.bl _, H, I, rfl, by simpa using q⟩
  · have e1 := hx.str_; have e2 := hy.str_; subst e1 e2
    cases n with
    | false => exact op_in_str pins s σ H _ _ v u Q I rx ry ⟨_, _, rfl, rfl, by simpa using q⟩
    | true => exact op_notin_str pins s σ H _ _ v u Q I rx ry ⟨_, _, rfl, rfl, by simpa using q⟩
  · exact q.elim
theorem memR_mono {x y : D} {Q Q' : Bool → Prop} (h : memR x y Q) (i : ∀ b, Q b → Q' b) : memR x y Q' := by
  unfold memR at h ⊢
  split at h
  · exact ⟨h.1, i _ h.2⟩
  · exact ⟨h.1, i _ h.2⟩
  · exact i _ h
  · exact h.elim
theorem e_mem {n : Bool} (hu : X.A.units + 66 < cLine) (ha : PE X a' (tE X.K P cl W a)) (hb : PE X b' (tE X.K P cl W b)) (hm : behindInMarks (if n = true then .NotIn else .In) b' = false) :
    PE X (.Compare a' [if n = true then .NotIn else .In] [b'] pos) (tE X.K P cl W (.mem n a b)) :=
  peI (pe_cmpR (op_memD hu) ha hb hm) fun σ H Q ⟨S0, LL, ρ, q, e, R, hw, hq, he⟩ => two R hw he fun dx dy x y H' s rx ry h => ⟨_, dx, dy, rx, ry, memR_mono h fun k hk => hq _ _ H' s res_bl hk⟩
theorem t_mem {n : Bool} (hu : X.A.units + 66 < cLine) (ha : PE X a' (tE X.K P cl W a)) (hb : PE X b' (tE X.K P cl W b)) (hm : behindInMarks (if n = true then .NotIn else .In) b' = false) :
    PT X (.Compare a' [if n = true then .NotIn else .In] [b'] pos) (tT X.K P cl W (.mem n a b)) :=
  ptI (pt_cmpR (op_memD hu) ha hb hm) fun σ H Q ⟨S0, LL, ρ, q, e, R, hw, hq, he⟩ => two R hw he fun dx dy x y H' s rx ry h => ⟨_, dx, dy, rx, ry, memR_mono h fun k hk => ⟨_, rfl, hq _ H' s hk⟩⟩
end
end Uq

set_option maxHeartbeats 1000000
/-! Uq, part g: displays, places, slices, calls. -/
namespace Uq
open PySem PySem.Spec PyProof.Rows L2
section
variable {X : Cx} {P : Pg} {cl : Cl} {W : WX} {a' b' c' : Expr} {a b c : C} {pos : Pos}
theorem gl_of {sc : Scope} {x : Str} (h : isG sc x = true) (e : X.env.scope = sc) : Gl X x := by
  show X.env.scope.names.lookup x = some .globalImplicit
  rw [e]
  unfold isG at h
  split at h
  · assumption
  · cases h
theorem vis_of {sc : Scope} {x : Str} (h : isL sc x = true) (e : X.env.scope = sc) : Vis X.env.scope x := by
  rw [e]
  unfold isL at h
  split at h
  · exact .inl (by assumption)
  · exact .inr (.inl (by assumption))
  · exact .inr (.inr (by assumption))
  · cases h

/-! ### argument lists -/
def tEsL (K : PySem.W.Frag) (P : Pg) (cl : Cl) (W : WX) (cs : List C) : TA := fun σ H Q => ∃ S0 LL ρ q e, Rel K P S0 LL ρ σ H ∧ wEs cl cs ρ q e ∧
  (∀ ds vs H', Same H H' → Rps K (NmS S0 LL (nmsL cs)) H' ds vs → ds.length = cs.length → q ds → Q vs H') ∧ (∀ k fs cv dx H', Same H H' → XRp K P H' k fs cv dx → e k fs → W cv dx σ H')
theorem a_nil : PA X [] (tEsL X.K P cl W []) := paI pa_nil fun σ H Q ⟨S0, LL, ρ, q, e, R, hw, hq, he⟩ => hq [] [] H (Same.refl H) .nil rfl hw
theorem tEs_cons {K : PySem.W.Frag} {cs : List C} {σ : L2.St} {H : Hp} {Q : List V → Hp → Prop} (h : tEsL K P cl W (a :: cs) σ H Q) : tCons (tE K P cl W a) (tEsL K P cl W cs) σ H Q := by
  obtain ⟨S0, LL, ρ, q, e, R, hw, hq, he⟩ := h
  refine ⟨S0, LL, ρ, _, e, R, hw, fun d v H1 s1 r1 h1 => ⟨S0, LL, ρ, _, e, R.same s1, h1, fun ds vs H2 s2 r2 l2 h2 => ?_, fun k fs cv dx H' s2 x h => he k fs cv dx H' (sq_ s1 s2) x h⟩, he⟩
  exact hq (d :: ds) (v :: vs) H2 (sq_ s1 s2) (.cons ((r1.1.wide fun _ _ _ z => z.sub inl_).same s2) (r2.wide fun _ _ _ z => z.sub inr_)) (by simp [l2]) h2
theorem a_cons {cs : List C} {es : List Expr} (ha : PE X a' (tE X.K P cl W a)) (hr : PA X es (tEsL X.K P cl W cs)) (hs : starEach (a' :: es) X.env = (false, eval a' X.env) :: starEach es X.env) : PA X (a' :: es) (tEsL X.K P cl W (a :: cs)) :=
  paI (pa_cons ha hr hs) fun σ H Q h => tEs_cons h
theorem k_nil : PK X [] (tEsL X.K P cl W []) := ⟨fun pos pins s σ H Q I h => pk_nil.run pos pins s σ H Q I (let ⟨S0, LL, ρ, q, e, R, hw, hq, he⟩ := h; hq [] [] H (Same.refl H) .nil rfl hw)⟩
theorem k_cons {cs : List C} {kws : List Keyword} {nm : Option Str} {kpos : Pos} (ha : PE X a' (tE X.K P cl W a)) (hr : PK X kws (tEsL X.K P cl W cs)) : PK X (⟨nm, a', kpos⟩ :: kws) (tEsL X.K P cl W (a :: cs)) :=
  ⟨fun pos pins s σ H Q I h => (pk_cons ha hr).run pos pins s σ H Q I (tEs_cons h)⟩
/-! ### displays -/
theorem len1000 {n : Nat} (h : n ≤ 1000) : n ≤ sizeLine := Nat.le_trans h (by decide)
theorem e_tup {cs : List C} {es : List Expr} {n : Nat} (hn : cs.length ≤ 1000) (h : PA X es (tEsL X.K P cl W cs)) : PE X (.Tuple es n pos) (tE X.K P cl W (.tup cs)) := by
  refine peI (pe_tup h) fun σ H Q ⟨S0, LL, ρ, q, e, R, hw, hq, he⟩ => ⟨S0, LL, ρ, _, e, R, hw, fun ds vs H1 s1 r1 l1 h1 => ⟨len1000 (by rw [← r1.length, l1]; exact hn), fun p hp => ?_⟩, he⟩
  exact hq _ _ _ (sq_ s1 (same_upd hp)) (res_of (new_tup r1 hp) fun _ e => by cases e) h1
theorem e_lst {cs : List C} {es : List Expr} (hn : cs.length ≤ 1000) (h : PA X es (tEsL X.K P cl W cs)) : PE X (.List es pos) (tE X.K P cl W (.lst cs)) := by
  refine peI (pe_lst h) fun σ H Q ⟨S0, LL, ρ, q, e, R, hw, hq, he⟩ => ⟨S0, LL, ρ, _, e, R, hw, fun ds vs H1 s1 r1 l1 h1 => ⟨len1000 (by rw [← r1.length, l1]; exact hn), fun p hp => ?_⟩, he⟩
  exact hq _ _ _ (sq_ s1 (same_upd hp)) (Res.from s1 (new_lst r1 hp (R.nmF s1 p hp))) h1

/-! ### places, slices -/
def rIxD (K : PySem.W.Frag) : R2 := fun x y H Q => ∃ (S : Addr → Prop) (dx dy : D) (q : QD), Rp K S H dx x ∧ Rp K S H dy y ∧ ixR dx dy q ∧ ∀ d v, Rp K S H d v → q d → Q v H
theorem Rp.ints {K : PySem.W.Frag} {S : Addr → Prop} {H : Hp} {kvs : List (D × D)} {ns : List Int} (e : kvs = ns.map fun n => ((PyData.none, PyData.int n) : D × D)) : Rps K S H (kvs.map (·.2)) (ns.map V.int) := by
  subst e
  have e2 : (ns.map fun n => ((PyData.none, PyData.int n) : D × D)).map (·.2) = ns.map PyData.int := by rw [List.map_map]; rfl
  rw [e2]
  exact Rps.ints ns
theorem ixD : IxR X (rIxD X.K) := by
  intro value slice pins s σ H x y v u Q I rx ry h hs
  obtain ⟨S, dx, dy, q, hx, hy, hi, cont⟩ := h
  unfold ixR at hi
  split at hi
  · obtain ⟨a, xs, rfl, sa, ha, r⟩ := hx.lst_
    have e := hy.int_; subst e
    obtain ⟨d, e1, hq⟩ := hi
    obtain ⟨w, e2, rw⟩ := r.atI e1
    exact ix_list value slice pins s σ H _ _ v u Q I rx ry ⟨a, xs, _, w, rfl, rfl, SqL.of ha, e2, cont _ _ rw hq⟩ hs
  · obtain ⟨a, xs, rfl, ha, r⟩ := hx.tup_
    have e := hy.int_; subst e
    obtain ⟨d, e1, hq⟩ := hi
    obtain ⟨w, e2, rw⟩ := r.atI e1
    exact ix_tup value slice pins s σ H _ _ v u Q I rx ry ⟨a, xs, _, w, rfl, rfl, ha, e2, cont _ _ rw hq⟩ hs
  · obtain ⟨a, ns, rfl, ha, ek⟩ := hx.dic_
    have e := hy.int_; subst e
    obtain ⟨d, e1, hq⟩ := hi
    obtain ⟨w, e2, rw⟩ := (Rp.ints (K := X.K) (S := S) (H := H) ek).atI e1
    exact ix_list value slice pins s σ H _ _ v u Q I rx ry ⟨a, _, _, w, rfl, rfl, ha.sq, e2, cont _ _ rw hq⟩ hs
  · exact hi.elim
theorem e_ix (ha : PE X a' (tE X.K P cl W a)) (hb : PE X b' (tE X.K P cl W b)) (hs : PlainIx b') : PE X (.Subscript a' b' pos) (tE X.K P cl W (.ix a b)) := by
  refine peI (pe_ix ixD ha hb hs) fun σ H Q ⟨S0, LL, ρ, q, e, R, hw, hq, he⟩ => two R hw he fun dx dy x y H' s rx ry h => ⟨_, dx, dy, q, rx, ry, h, fun d v r hd => hq d v H' s (.fls r) hd⟩
/-- an element of what a slot holds: it lies with none of the own lists -/
def rIxO (K : PySem.W.Frag) : R2 := fun x y H Q => rIxL K x y H Q ∨ rIxT K x y H Q
theorem ixO : IxR X (rIxO X.K) := by
  intro value slice pins s σ H x y v u Q I rx ry h hs
  rcases h with h | h
  · exact ix_list value slice pins s σ H x y v u Q I rx ry h hs
  · exact ix_tup value slice pins s σ H x y v u Q I rx ry h hs
theorem e_ixo {i : Nat} {x : Str} {p : Pos} (hi : X.N[i]? = some x) (hv : Vis X.env.scope x) (hd : (x == ("__debug__" : Str)) = false) (hcd : (x == ("__classdict__" : Str)) = false) (hb : PE X b' (tE X.K P cl W b)) (hs : PlainIx b') :
    PE X (.Subscript (.Name x p) b' pos) (tE X.K P cl W (.ixo i b)) := by
  refine peI (pe_ix ixO (pe_var hi hv hd hcd) hb hs) fun σ H Q ⟨S0, LL, ρ, q, e, R, hw, hq, he⟩ => ?_
  unfold wE at hw
  have at_ : ∀ {s : Sl} {y : V}, (σ[i]?.join = some y) → σ[i]? = some (some y) := fun {s y} ey => by
    cases q2 : σ[i]? with
    | none => rw [q2] at ey; cases ey
    | some w => rw [q2] at ey; exact congrArg some ey
  cases q1 : ρ[i]? with
  | none => rw [q1] at hw; exact hw.elim
  | some s =>
    rw [q1] at hw
    have r := R.slot i s q1
    cases s <;> first | exact hw.elim | skip
    · rename_i d
      obtain ⟨_, y, ey, ry⟩ := r
      refine ⟨y, at_ (s := .no) ey, ?_⟩
      refine ⟨S0, LL, ρ, _, e, R, hw, fun dy v H1 s1 r1 h1 => ?_, he⟩
      have ry1 := ry.same s1
      unfold ixR at h1
      split at h1
      · obtain ⟨a, xs, rfl, sa, ha, r⟩ := ry1.lst_
        have e := r1.1.int_; subst e
        obtain ⟨d, e1, hq1⟩ := h1
        obtain ⟨w, e2, rw⟩ := r.atI e1
        exact .inl ⟨a, xs, _, w, rfl, rfl, SqL.of ha, e2, hq _ _ H1 s1 (.fls (rw.wide fun _ _ _ z => z.nm)) hq1⟩
      · obtain ⟨a, xs, rfl, ha, r⟩ := ry1.tup_
        have e := r1.1.int_; subst e
        obtain ⟨d, e1, hq1⟩ := h1
        obtain ⟨w, e2, rw⟩ := r.atI e1
        exact .inr ⟨a, xs, _, w, rfl, rfl, ha, e2, hq _ _ H1 s1 (.fls (rw.wide fun _ _ _ z => z.nm)) hq1⟩
      · obtain ⟨a, ns, rfl, ha, ek⟩ := ry1.dic_
        have e := r1.1.int_; subst e
        obtain ⟨d, e1, hq1⟩ := h1
        obtain ⟨w, e2, rw⟩ := (Rp.ints (K := X.K) (S := SS S0 LL) (H := H1) ek).atI e1
        exact .inl ⟨a, _, _, w, rfl, rfl, ha.sq, e2, hq _ _ H1 s1 (.fls (rw.wide fun _ _ _ z => z.nm)) hq1⟩
      · exact h1.elim
    · rename_i ds
      obtain ⟨a, xs, ey, eL, ha, ry⟩ := r
      refine ⟨_, at_ (s := .no) ey, ?_⟩
      refine ⟨S0, LL, ρ, _, e, R, hw, fun dy v H1 s1 r1 h1 => ?_, he⟩
      cases dy <;> first | exact h1.elim | skip
      have e := r1.1.int_; subst e
      obtain ⟨d, e1, hq1⟩ := h1
      obtain ⟨w, e2, rw⟩ := (ry.same s1).atI e1
      exact .inl ⟨a, xs, _, w, rfl, rfl, SqL.of (s1 a _ ha), e2, hq _ _ H1 s1 (.fls (rw.wide fun _ _ _ z => z.nm)) hq1⟩
def rSlD (K : PySem.W.Frag) : V → Option Int → Option Int → Hp → VK → Prop := fun x lo hi H Q => ∃ (S : Addr → Prop) (dx : D) (q : QD), Rp K S H dx x ∧ (∀ a, H a = none → S a) ∧
  slR dx lo hi q ∧ ∀ d v H', Same H H' → Res K S H H' true d v → q d → Q v H'
theorem cut_all {ds : List D} {lo hi : Option Int} (h : HT.sIx ds.length 0 lo = 0 ∧ HT.sIx ds.length ds.length hi = ds.length) : cut ds lo hi = ds := by
  unfold cut
  rw [h.1, h.2]
  simp
theorem slD : SlR X (rSlD X.K) := by
  intro pins s σ H x v vl vu lo hi sl Q I rx hs pl pu h
  obtain ⟨S, dx, q, hx, hS, hq, cont⟩ := h
  cases dx <;> first | exact hq.elim | skip
  · obtain ⟨a, xs, rfl, sa, ha, r⟩ := hx.lst_
    exact sl_list pins s σ H _ v vl vu lo hi sl Q I rx hs pl pu ⟨a, xs, rfl, SqL.of ha, fun p hp => cont _ _ _ (same_upd hp) (new_lst r.cut hp (hS p hp)) hq⟩
  · obtain ⟨a, xs, rfl, ha, r⟩ := hx.tup_
    refine sl_tupA pins s σ H _ v vl vu lo hi sl Q I rx hs pl pu ⟨a, xs, rfl, ha, fun z => ?_, fun _ p hp => cont _ _ _ (same_upd hp) (res_of (new_tup r.cut hp) fun _ e => by cases e) hq⟩
    have hq' : q (.tuple (cut _ lo hi)) := hq
    rw [cut_all (by rw [r.length]; exact z)] at hq'
    exact cont _ _ _ (Same.refl H) (res_of hx fun _ e => by cases e) hq'
def tO (K : PySem.W.Frag) (P : Pg) (cl : Cl) (W : WX) (c : C) : TO := fun σ H Q => ∃ S0 LL ρ k e, Rel K P S0 LL ρ σ H ∧ wOpt (isNonC c) (fun q => wE cl c ρ q e) k ∧ (∀ o H', Same H H' → k o → Q o H') ∧
  (∀ k fs cv dx H', Same H H' → XRp K P H' k fs cv dx → e k fs → W cv dx σ H')
theorem poI {e : Option Expr} {t t' : TO} (h : PO X e t) (i : ∀ σ H Q, t' σ H Q → t σ H Q) : PO X e t' := ⟨fun pins s σ H Q I q => h.run pins s σ H Q I (i σ H Q q)⟩
theorem o_none (h : isNonC c = true) : PO X none (tO X.K P cl W c) := poI po_none fun σ H Q ⟨S0, LL, ρ, k, e, R, hw, hq, he⟩ => by
  unfold wOpt at hw
  rw [if_pos h] at hw
  exact hq _ H (Same.refl H) hw
theorem o_some (h : isNonC c = false) (hc : PE X c' (tE X.K P cl W c)) : PO X (some c') (tO X.K P cl W c) := poI (po_some hc) fun σ H Q ⟨S0, LL, ρ, k, e, R, hw, hq, he⟩ => by
  unfold wOpt at hw
  rw [if_neg (by rw [h]; exact Bool.false_ne_true)] at hw
  refine one R hw he fun d x H' s r h => ?_
  cases d <;> first | exact h.elim | skip
  exact ⟨_, r.int_, hq _ H' s h⟩
theorem e_sl {lo hi : Option Expr} {p2 : Pos} (ha : PE X a' (tE X.K P cl W a)) (hl : PO X lo (tO X.K P cl W b)) (hu : PO X hi (tO X.K P cl W c)) : PE X (.Subscript a' (.Slice lo hi none p2) pos) (tE X.K P cl W (.sl a b c)) := by
  refine peI (pe_slice slD ha hl hu) fun σ H Q ⟨S0, LL, ρ, q, e, R, hw, hq, he⟩ => ?_
  refine ⟨S0, LL, ρ, _, e, R, hw, fun dx x H1 s1 r1 w1 => ⟨S0, LL, ρ, _, e, R.same s1, w1, fun lo H2 s2 w2 => ⟨S0, LL, ρ, _, e, R.same (sq_ s1 s2), w2, fun hi H3 s3 w3 => ?_, ?_⟩, ?_⟩, he⟩
  · refine ⟨NmS S0 LL (nms a ++ (nms b ++ nms c)), dx, q, (r1.1.wide fun _ _ _ z => z.sub inl_).same (sq_ s2 s3), R.nmF (sq_ (sq_ s1 s2) s3), w3, fun d v H' s r hd => ?_⟩
    exact hq d v H' (sq_ (sq_ (sq_ s1 s2) s3) s) (Res.from (sq_ (sq_ s1 s2) s3) r) hd
  · exact fun k fs cv dx H' s x h => he k fs cv dx H' (sq_ (sq_ s1 s2) s) x h
  · exact fun k fs cv dx H' s x h => he k fs cv dx H' (sq_ s1 s) x h

/-! ### calls of the program's functions -/
def spF (K : PySem.W.Frag) (P : Pg) (np : Nat) (call : List D → QD → Ex → Prop) : Sp := fun vs H Q E => ∃ (ds : List D) (S : Addr → Prop) (q : QD) (e : Ex), Rps K S H ds vs ∧ (∀ a, H a = none → S a) ∧ call ds q e ∧ vs.length = np ∧
  (∀ d v H', Same H H' → Rp K S H' d v → q d → Q v H') ∧ (∀ k fs cv dx H', Same H H' → XRp K P H' k fs cv dx → e k fs → E cv dx H')
theorem Rps.perm {K : PySem.W.Frag} {S : Addr → Prop} {H : Hp} {ds : List D} {vs : List V} (h : Rps K S H ds vs) : ∀ pm : List Nat, Rps K S H (pm.map fun j => ds.getD j .none) (pm.map fun j => vs.getD j .non)
  | [] => .nil
  | j :: pm => by
    refine .cons ?_ (h.perm pm)
    show Rp K S H (ds.getD j .none) (vs.getD j .non)
    cases e : ds[j]? with
    | none =>
      have e2 : vs[j]? = none := by
        rw [List.getElem?_eq_none_iff] at e ⊢
        rw [← h.length]; exact e
      rw [List.getD_eq_getElem?_getD, List.getD_eq_getElem?_getD, e, e2]
      simp only [Option.getD_none, Rp]
    | some d =>
      obtain ⟨v, e2, r⟩ := h.get e
      rw [List.getD_eq_getElem?_getD, List.getD_eq_getElem?_getD, e, e2]
      exact r
def permV (pm : List Nat) (vs zs : List V) : List V := pm.map fun j => (vs ++ zs).getD j .non
theorem wEs_app {ρ : Env} {e : Ex} : ∀ (as bs : List C) (q : List D → Prop), wEs cl (as ++ bs) ρ q e = wEs cl as ρ (fun xs => wEs cl bs ρ (fun ys => q (xs ++ ys)) e) e
  | [], bs, q => by simp only [List.nil_append, wEs]
  | c :: as, bs, q => by
    simp only [List.cons_append, wEs]
    congr 1
    funext v
    rw [wEs_app as bs]
section
variable {k : Nat} {fa : Addr} {fd : FuncData} {ps : List Str} {x : Str} {p : Pos} {f : Nat} {cs : List C} {es : List Expr}
theorem e_call (F : FnOk X.prog X.w X.K X.mg X.base (L2.CX X.prog X.w) k fa fd ps (spF X.K P ps.length (cl.call f))) (tk : Takes X W) (hr : Room k X.A) (hg : Gl X x) (hm : X.mg x = some (.ref fa)) (hk : PySem.W.keepIn X.K (.ref fa) = true) (hb : Binds X.K fd ps [])
    (hl : cs.length = ps.length) (ha : PA X (a' :: es) (tEsL X.K P cl W cs)) (hdb : (x == ("__debug__" : Str)) = false) (he : starEach (a' :: es) X.env = (false, eval a' X.env) :: starEach es X.env) (hpl : (backTo pos (starEach es X.env)).any (·.1) = false) :
    PE X (.Call (.Name x p) (a' :: es) [] pos) (tE X.K P cl W (.call f [] cs)) := by
  refine peI (pe_callS F hr hg hm hk hb (fun σ => passAt tk σ) ha hdb he hpl) fun σ H Q ⟨S0, LL, ρ, q, e, R, hw, hq, hE⟩ => ?_
  refine ⟨S0, LL, ρ, _, e, R, hw, fun ds vs H1 s1 r1 l1 h1 => ⟨ds, _, q, e, r1, R.nmF s1, h1, by rw [← r1.length, l1, hl], fun d v H' s r hd => hq d v H' (sq_ s1 s) (.fls r) hd, fun k fs cv dx H' s x h => hE k fs cv dx H' (sq_ s1 s) x h⟩, hE⟩
theorem e_call0 (F : FnOk X.prog X.w X.K X.mg X.base (L2.CX X.prog X.w) k fa fd ps (spF X.K P ps.length (cl.call f))) (tk : Takes X W) (hr : Room k X.A) (hg : Gl X x) (hm : X.mg x = some (.ref fa)) (hk : PySem.W.keepIn X.K (.ref fa) = true) (hb : Binds X.K fd ps [])
    (hl : 0 = ps.length) (hdb : (x == ("__debug__" : Str)) = false) : PE X (.Call (.Name x p) [] [] pos) (tE X.K P cl W (.call f [] [])) := by
  refine ⟨fun pins s σ H Q I h => ?_⟩
  obtain ⟨S0, LL, ρ, q, e, R, hw, hq, hE⟩ := h
  refine wpAny_Call_Name_kw (ld_glob I hg hm ?_ hdb)
  refine PySem.W.callWith_K0 I.kIn hk ?_
  refine run_fnS (E := WE W) F hr hb (passAt tk σ) I (us := []) .nil ⟨[], _, q, e, .nil, R.nmF (nm := []) (Same.refl H), hw, hl, fun d v H' s r hd => hq d v H' s (.fls r) hd, fun k fs cv dx H' s x h => hE k fs cv dx H' s x h⟩
end
end
end Uq

set_option maxHeartbeats 1000000
/-! Uq, part h: built-ins. -/
namespace Uq
open PySem PySem.Spec PyProof.Rows L2
section
variable {K : PySem.W.Frag} {S : Addr → Prop} {H : Hp}
theorem ints_eq : ∀ {ds : List D} {ns : List Int}, ints? ds = some ns → ds = ns.map PyData.int
  | [], ns, h => by simp only [ints?] at h; cases h; rfl
  | d :: ds, ns, h => by
    cases d with
    | int i =>
      simp only [ints?] at h
      cases e : ints? ds with
      | none => rw [e] at h; cases h
      | some ms =>
        rw [e] at h
        have h' : some (i :: ms) = some ns := h
        cases h'
        rw [ints_eq e]; rfl
    | _ => simp only [ints?] at h; cases h
theorem bools_eq : ∀ {ds : List D} {ns : List Bool}, bools? ds = some ns → ds = ns.map PyData.bool
  | [], ns, h => by simp only [bools?] at h; cases h; rfl
  | d :: ds, ns, h => by
    cases d with
    | bool i =>
      simp only [bools?] at h
      cases e : bools? ds with
      | none => rw [e] at h; cases h
      | some ms =>
        rw [e] at h
        have h' : some (i :: ms) = some ns := h
        cases h'
        rw [bools_eq e]; rfl
    | _ => simp only [bools?] at h; cases h
theorem Rps.ints_ : ∀ {ns : List Int} {xs : List V}, Rps K S H (ns.map PyData.int) xs → xs = ns.map V.int
  | [], xs, h => by simpa only [List.map_nil, Rps] using h
  | n :: ns, xs, h => by
    simp only [List.map_cons, Rps] at h
    obtain ⟨v, r, rfl, h1, h2⟩ := h
    rw [h1.int_, Rps.ints_ h2]; rfl
theorem Rps.bools_ : ∀ {ns : List Bool} {xs : List V}, Rps K S H (ns.map PyData.bool) xs → xs = ns.map V.bl
  | [], xs, h => by simpa only [List.map_nil, Rps] using h
  | n :: ns, xs, h => by
    simp only [List.map_cons, Rps] at h
    obtain ⟨v, r, rfl, h1, h2⟩ := h
    rw [h1.bl_, Rps.bools_ h2]; rfl
theorem Rps.one_ {d : D} {vs : List V} (h : Rps K S H [d] vs) : ∃ v, vs = [v] ∧ Rp K S H d v := by
  simp only [Rps] at h
  obtain ⟨v, r, rfl, h1, rfl⟩ := h
  exact ⟨v, rfl, h1⟩
theorem Rps.two_ {d e : D} {vs : List V} (h : Rps K S H [d, e] vs) : ∃ v w, vs = [v, w] ∧ Rp K S H d v ∧ Rp K S H e w := by
  simp only [Rps] at h
  obtain ⟨v, r, rfl, h1, w, r2, rfl, h2, rfl⟩ := h
  exact ⟨v, w, rfl, h1, h2⟩
end
def rBi (K : PySem.W.Frag) (f : Bi) : List V → Hp → VK → Prop := fun vs H Q => ∃ (S : Addr → Prop) (ds : List D) (q : QD), Rps K S H ds vs ∧ (∀ a, H a = none → S a) ∧ biR f ds q ∧ ∀ d v H', Same H H' → Res K S H H' true d v → q d → Q v H'
section
variable {X : Cx}
theorem bi_len : CallR X (.builtin "len") (rBi X.K .len) := by
  intro pins s σ H vs us Q I r h
  obtain ⟨S, ds, q, hr, hS, hb, cont⟩ := h
  have fin : ∀ n : Nat, q (.int n) → Q (.int n) H := fun n h => cont _ _ H (Same.refl H) res_int h
  unfold biR at hb
  split at hb <;> first | exact hb.elim | contradiction | skip
  · obtain ⟨v, rfl, h1⟩ := hr.one_
    obtain ⟨a, xs, rfl, _, ha, r1⟩ := h1.lst_
    exact call_len_seq pins s σ H _ us Q I r ⟨a, xs, rfl, .inl (SqL.of ha), by rw [← r1.length]; exact fin _ hb⟩
  · obtain ⟨v, rfl, h1⟩ := hr.one_
    obtain ⟨a, xs, rfl, ha, r1⟩ := h1.tup_
    exact call_len_seq pins s σ H _ us Q I r ⟨a, xs, rfl, .inr ha, by rw [← r1.length]; exact fin _ hb⟩
  · obtain ⟨v, rfl, h1⟩ := hr.one_
    obtain ⟨a, ns, rfl, ha, e⟩ := h1.dic_
    exact call_len_seq pins s σ H _ us Q I r ⟨a, _, rfl, .inl ha.sq, by rw [List.length_map]; rw [e, List.length_map] at hb; exact fin _ hb⟩
  · obtain ⟨v, rfl, h1⟩ := hr.one_
    have e := h1.str_; subst e
    exact call_len pins s σ H _ us Q I r ⟨_, _, rfl, ⟨hb.1, rfl⟩, fin _ hb.2⟩
theorem bi_divmod : CallR X (.builtin "divmod") (rBi X.K .divmod) := by
  intro pins s σ H vs us Q I r h
  obtain ⟨S, ds, q, hr, hS, hb, cont⟩ := h
  unfold biR at hb
  split at hb <;> first | exact hb.elim | contradiction | skip
  obtain ⟨v, w, rfl, h1, h2⟩ := hr.two_
  have e := h1.int_; subst e
  have e := h2.int_; subst e
  exact call_divmod pins s σ H _ us Q I r ⟨_, _, rfl, hb.1, fun p hp => cont _ _ _ (same_upd hp) (res_of (new_tup (.cons (by simp only [Rp]) (.one (by simp only [Rp]))) hp) fun _ e => by cases e) hb.2⟩
theorem bi_abs : CallR X (.builtin "abs") (rBi X.K .abs) := by
  intro pins s σ H vs us Q I r h
  obtain ⟨S, ds, q, hr, hS, hb, cont⟩ := h
  unfold biR at hb
  split at hb <;> first | exact hb.elim | contradiction | skip
  obtain ⟨v, rfl, h1⟩ := hr.one_
  have e := h1.int_; subst e
  exact call_abs pins s σ H _ us Q I r ⟨_, rfl, cont _ _ H (Same.refl H) res_int hb⟩
theorem bi_int : CallR X (.type "int") (rBi X.K .int) := by
  intro pins s σ H vs us Q I r h
  obtain ⟨S, ds, q, hr, hS, hb, cont⟩ := h
  unfold biR at hb
  split at hb <;> first | exact hb.elim | contradiction | skip
  · obtain ⟨v, rfl, h1⟩ := hr.one_
    have e := h1.int_; subst e
    exact call_int1 pins s σ H _ us Q I r (.inl ⟨_, rfl, cont _ _ H (Same.refl H) res_int hb⟩)
  · obtain ⟨v, rfl, h1⟩ := hr.one_
    have e := h1.bl_; subst e
    exact call_int1 pins s σ H _ us Q I r (.inr ⟨_, rfl, cont _ _ H (Same.refl H) res_int hb⟩)
theorem bi_bool : CallR X (.type "bool") (rBi X.K .bool) := by
  intro pins s σ H vs us Q I r h
  obtain ⟨S, ds, q, hr, hS, hb, cont⟩ := h
  unfold biR at hb
  split at hb <;> first | exact hb.elim | contradiction | skip
  · obtain ⟨v, rfl, h1⟩ := hr.one_
    have e := h1.int_; subst e
    exact call_bool1 pins s σ H _ us Q I r (.inl ⟨_, rfl, cont _ _ H (Same.refl H) res_bl hb⟩)
  · obtain ⟨v, rfl, h1⟩ := hr.one_
    have e := h1.bl_; subst e
    exact call_bool1 pins s σ H _ us Q I r (.inr ⟨_, rfl, cont _ _ H (Same.refl H) res_bl hb⟩)
theorem bi_max (hc : X.calm = true) : CallR X (.builtin "max") (rBi X.K .max) := by
  intro pins s σ H vs us Q I r h
  obtain ⟨S, ds, q, hr, hS, hb, cont⟩ := h
  unfold biR at hb
  split at hb <;> first | exact hb.elim | contradiction | skip
  · obtain ⟨v, w, rfl, h1, h2⟩ := hr.two_
    have e := h1.int_; subst e
    have e := h2.int_; subst e
    exact call_max2 hc pins s σ H _ us Q I r ⟨_, _, rfl, cont _ _ H (Same.refl H) res_int hb⟩
  · obtain ⟨v, rfl, h1⟩ := hr.one_
    obtain ⟨a, xs, rfl, _, ha, r1⟩ := h1.lst_
    obtain ⟨ns, e1, e2, e3⟩ := hb
    rw [ints_eq e1] at r1
    rw [r1.ints_] at ha
    exact cr_max hc pins s σ H _ us Q I r ⟨a, ns, rfl, SqL.of ha, e2, fun m h1 h2 => cont _ _ H (Same.refl H) res_int (e3 m h1 h2)⟩
theorem bi_min (hc : X.calm = true) : CallR X (.builtin "min") (rBi X.K .min) := by
  intro pins s σ H vs us Q I r h
  obtain ⟨S, ds, q, hr, hS, hb, cont⟩ := h
  unfold biR at hb
  split at hb <;> first | exact hb.elim | contradiction | skip
  · obtain ⟨v, w, rfl, h1, h2⟩ := hr.two_
    have e := h1.int_; subst e
    have e := h2.int_; subst e
    exact call_min2 hc pins s σ H _ us Q I r ⟨_, _, rfl, cont _ _ H (Same.refl H) res_int hb⟩
  · obtain ⟨v, rfl, h1⟩ := hr.one_
    obtain ⟨a, xs, rfl, _, ha, r1⟩ := h1.lst_
    obtain ⟨ns, e1, e2, e3⟩ := hb
    rw [ints_eq e1] at r1
    rw [r1.ints_] at ha
    exact cr_min hc pins s σ H _ us Q I r ⟨a, ns, rfl, SqL.of ha, e2, fun m h1 h2 => cont _ _ H (Same.refl H) res_int (e3 m h1 h2)⟩
theorem bi_tuple : CallR X (.type "tuple") (rBi X.K .tuple) := by
  intro pins s σ H vs us Q I r h
  obtain ⟨S, ds, q, hr, hS, hb, cont⟩ := h
  unfold biR at hb
  split at hb <;> first | exact hb.elim | contradiction | skip
  · obtain ⟨v, rfl, h1⟩ := hr.one_
    obtain ⟨a, xs, rfl, _, ha, r1⟩ := h1.lst_
    exact call_tuple_of pins s σ H _ us Q I r ⟨a, xs, rfl, .inl ⟨SqL.of ha, fun p hp => cont _ _ _ (same_upd hp) (res_of (new_tup r1 hp) fun _ e => by cases e) hb⟩⟩
  · obtain ⟨v, rfl, h1⟩ := hr.one_
    obtain ⟨a, xs, rfl, ha, r1⟩ := h1.tup_
    exact call_tuple_of pins s σ H _ us Q I r ⟨a, xs, rfl, .inr ⟨ha, cont _ _ H (Same.refl H) (res_of h1 fun _ e => by cases e) hb⟩⟩
theorem bi_list : CallR X (.type "list") (rBi X.K .list) := by
  intro pins s σ H vs us Q I r h
  obtain ⟨S, ds, q, hr, hS, hb, cont⟩ := h
  unfold biR at hb
  split at hb <;> first | exact hb.elim | contradiction | skip
  · obtain ⟨v, rfl, h1⟩ := hr.one_
    obtain ⟨a, xs, rfl, _, ha, r1⟩ := h1.lst_
    exact call_list_of pins s σ H _ us Q I r ⟨a, xs, rfl, .inl (SqL.of ha), fun p hp => cont _ _ _ (same_upd hp) (new_lst r1 hp (hS p hp)) hb⟩
  · obtain ⟨v, rfl, h1⟩ := hr.one_
    obtain ⟨a, xs, rfl, ha, r1⟩ := h1.tup_
    exact call_list_of pins s σ H _ us Q I r ⟨a, xs, rfl, .inr ha, fun p hp => cont _ _ _ (same_upd hp) (new_lst r1 hp (hS p hp)) hb⟩
theorem bi_any (hc : X.calm = true) : CallR X (.builtin "any") (rBi X.K .any) := by
  intro pins s σ H vs us Q I r h
  obtain ⟨S, ds, q, hr, hS, hb, cont⟩ := h
  unfold biR at hb
  split at hb <;> first | exact hb.elim | contradiction | skip
  obtain ⟨v, rfl, h1⟩ := hr.one_
  obtain ⟨a, xs, rfl, _, ha, r1⟩ := h1.lst_
  obtain ⟨ns, e1, e3⟩ := hb
  rw [bools_eq e1] at r1
  rw [r1.bools_] at ha
  exact cr_any hc pins s σ H _ us Q I r ⟨a, ns, rfl, SqL.of ha, cont _ _ H (Same.refl H) res_bl e3⟩
theorem bi_all (hc : X.calm = true) : CallR X (.builtin "all") (rBi X.K .all) := by
  intro pins s σ H vs us Q I r h
  obtain ⟨S, ds, q, hr, hS, hb, cont⟩ := h
  unfold biR at hb
  split at hb <;> first | exact hb.elim | contradiction | skip
  obtain ⟨v, rfl, h1⟩ := hr.one_
  obtain ⟨a, xs, rfl, _, ha, r1⟩ := h1.lst_
  obtain ⟨ns, e1, e3⟩ := hb
  rw [bools_eq e1] at r1
  rw [r1.bools_] at ha
  exact cr_all hc pins s σ H _ us Q I r ⟨a, ns, rfl, SqL.of ha, cont _ _ H (Same.refl H) res_bl e3⟩
theorem bi_sum (hc : X.calm = true) : CallR X (.builtin "sum") (rBi X.K .sum) := by
  intro pins s σ H vs us Q I r h
  obtain ⟨S, ds, q, hr, hS, hb, cont⟩ := h
  unfold biR at hb
  split at hb <;> first | exact hb.elim | contradiction | skip
  obtain ⟨v, rfl, h1⟩ := hr.one_
  obtain ⟨a, xs, rfl, _, ha, r1⟩ := h1.lst_
  obtain ⟨ns, e1, e3⟩ := hb
  rw [ints_eq e1] at r1
  rw [r1.ints_] at ha
  exact cr_sum hc pins s σ H _ us Q I r ⟨a, ns, rfl, SqL.of ha, cont _ _ H (Same.refl H) res_int e3⟩
/-! ### sorted -/
theorem collect_tupU {prog : Program} {w : World} {A : Around} {E : Value → Shared → Prop} {s : Shared} {l : Addr} {vs : List Value} {Q : List Value → Shared → Prop} (hl : IsTup s.heap l vs.toArray)
    (h : Q vs { s with heap := (s.heap.push (seqObj "list" #[] 0)).update s.heap.objs.size (Obj.mapSeq (· ++ vs.toArray)) }) (hsz : vs.length ≤ sizeLine) :
    wpAny (model prog w) A (collect (.ref l)) Q E s := by
  obtain ⟨o, ho, hc, n, hd⟩ := id hl
  unfold collect
  refine wpAny_bind (wpAny_runValue (codeAny_builtin entry_proto_collect' ?_))
  show wpAny _ _ (do again (.builtin "list.__iadd__" ⟨[← newList [], .ref l], []⟩)) _ _ s
  refine wpAny_bind (wpAny_newList (wpAny_pure ⟨Code.quiet_builtin _ (by decide +kernel), codeAny_builtin entry_list_iadd' ?_⟩))
  show wpAny _ _ (Builtin.List.listExtendWith (.ref s.heap.objs.size) (.ref l) (.ref s.heap.objs.size)) _ _ { s with heap := s.heap.push (seqObj "list" #[] 0) }
  unfold Builtin.List.listExtendWith
  have ho' : (s.heap.push (seqObj "list" #[] 0)).get? l = some o := Heap.get?_push_of_some _ ho
  refine wpAny_bind (wpAny_typeOf (T := "tuple") ⟨o, ho', hc⟩ ?_)
  have ht : (Value.type "tuple" == Value.type "tuple") = true := by rfl
  rw [if_pos (by rw [ht]; simp)]
  refine wpAny_bind (listItems_at ho' hd ?_)
  refine wpAny_bind (listItems_at (xs := #[]) (n := 0) (Heap.get?_push_size _ rfl) rfl ?_)
  rw [if_neg (by simp)]
  refine wpAny_bind (listUpdate_at (xs := #[]) (n := 0) (Heap.get?_push_size _ rfl) rfl ?_ (Nat.zero_le _) (by show (#[] ++ vs.toArray).size ≤ sizeLine + 1; simp only [Array.size_append, List.size_toArray, List.length_nil]; omega))
  refine wpAny_pure ?_
  show wpAny (model prog w) A (do
      let o ← load s.heap.objs.size
      match o.data with
      | .seq xs _ => pure xs.toList
      | _ => unsupported "internal:collect") Q E { s with heap := (s.heap.push (seqObj "list" #[] 0)).update s.heap.objs.size (Obj.mapSeq (· ++ vs.toArray)) }
  refine wpAny_bind (wpAny_load (get?_update_seq (Heap.get?_push_size _ rfl) _) ?_)
  show wpAny _ _ (pure ((#[] : Array Value) ++ vs.toArray).toList) Q E _
  rw [show ((#[] : Array Value) ++ vs.toArray).toList = vs by simp]
  exact wpAny_pure h
theorem sorted_of_sortU {prog : Program} {w : World} {A : Around} {E : Value → Shared → Prop} {s : Shared} {l : Addr} {vs : List Value} {Q : Value → Shared → Prop} (hl : IsTup s.heap l vs.toArray) (hL : vs.length ≤ sizeLine)
    (body : ∀ E' : Value → Shared → Prop, wpAny (model prog w) A.in1.in1 (Builtin.«list.sort» ⟨[.ref (s.heap.objs.size + 1)], []⟩) (fun f s' => f = .done (.ret .none) ∧ Q (.ref (s.heap.objs.size + 1)) s') E' { s with heap := W.copyHeap s.heap vs }) :
    wpAny (model prog w) A (call (.builtin "sorted") [.ref l] []) Q E s := by
  refine Calls.call_function_entry kind_sorted plain_sorted entry_sorted (args_sorted1 _) ?_
  unfold Builtin.«sorted»
  refine wpAny_bind (m := checkCount "sorted" 1 1 _) (wpAny_pure ?_)
  refine wpAny_bind (collect_tupU hl ?_ hL)
  refine wpAny_bind (wpAny_newList ?_ hL)
  have hsz : ((s.heap.push (seqObj "list" #[] 0)).update s.heap.objs.size (Obj.mapSeq (· ++ vs.toArray))).objs.size = s.heap.objs.size + 1 := by
    rw [Heap.size_update, size_push']
  show wpAny _ _ _ _ _ { s with heap := W.copyHeap s.heap vs }
  rw [hsz]
  refine wpAny_bind (wpAny_holding (wpAny_call_entry_kw slot_list_sort ⟨_, W.copyHeap_at s.heap vs, rfl⟩ entry_list_sort ?body (args_list_sort _)))
  case body =>
    show wpAny (model prog w) A.in1.in1 (Builtin.«list.sort» ⟨[.ref (s.heap.objs.size + 1)], []⟩) _ _ _
    refine wpAny_mono (body _) (fun f s' hf => ?_) fun _ _ e => e
    obtain ⟨rfl, hq⟩ := hf
    exact ⟨_, rfl, wpAny_pure ⟨_, rfl, hq⟩⟩
theorem reads_all {pins : List (Addr × Obj)} {σ : L2.St} {H : Hp} {s : Shared} {S : Addr → Prop} (I : L2.Inv X pins σ H s) : ∀ {ds : List D} {xs : List V} {us : List Value}, Rps X.K S H ds xs → Vals xs us → (∀ d ∈ ds, SeqAt.shaped d = true) →
    W.EachIs (fun (u : Value) (d : D) => ∃ v, RelV v u ∧ Rp X.K S H d v) us ds ∧ W.EachIs (fun (u : Value) (d : D) => ∃ as, Reads s.heap u (id d) as) us ds
  | [], xs, us, h, r, _ => by
    simp only [Rps] at h
    subst h
    cases r
    exact ⟨.nil, .nil⟩
  | d :: ds, xs, us, h, r, hs => by
    simp only [Rps] at h
    obtain ⟨v, xs', rfl, h1, h2⟩ := h
    cases r with
    | cons r rr =>
      obtain ⟨i1, i2⟩ := reads_all I h2 rr fun d hd => hs d (List.mem_cons_of_mem _ hd)
      obtain ⟨as, q⟩ := Dp.reads I d v _ (h1.dp _ _ (hs d List.mem_cons_self)) r
      exact ⟨.cons ⟨v, r, h1⟩ i1, .cons ⟨as, q⟩ i2⟩
theorem each_back {K : PySem.W.Frag} {S : Addr → Prop} {H : Hp} : ∀ {us : List Value} {ds : List D}, W.EachIs (fun (u : Value) (d : D) => ∃ v, RelV v u ∧ Rp K S H d v) us ds → ∃ xs, Vals xs us ∧ Rps K S H ds xs
  | _, _, .nil => ⟨[], .nil, .nil⟩
  | _, _, .cons ⟨v, r, h⟩ e => let ⟨xs, r', h'⟩ := each_back e; ⟨v :: xs, .cons r r', .cons h h'⟩
theorem sorted_dataU {prog : Program} {w : World} {A : Around} {E : Value → Shared → Prop} {s : Shared} {l : Addr} {vs : List Value} {ds : List D} {R : Value → D → Prop} {Q : Value → Shared → Prop} (hl : IsTup s.heap l vs.toArray) (e : W.EachIs R vs ds) (er : W.EachIs (fun v b => ∃ as, Reads s.heap v (id b) as) vs ds) (hal : W.AllAlike (ds.map id)) (hk : W.Sortable (ds.map id)) (hL : ds.length ≤ sizeLine)
    (hu : ∀ b, b ∈ ds → A.units + 2 + (id b : D).depth < cLine) (h : ∀ out, out.length = ds.length → W.EachIs R out (ds.mergeSort (W.dataLe false id)) → Q (.ref (s.heap.objs.size + 1)) { s with heap := sortedAll s.heap vs (List.toArray out) }) :
    wpAny (model prog w) A (call (.builtin "sorted") [.ref l] []) Q E s := by
  have er' : W.EachIs (fun v b => ∃ as, Reads (W.sortingHeap (W.copyHeap s.heap vs) (s.heap.objs.size + 1) vs) v (id b) as) vs ds := er.mono fun _ _ ⟨as, r⟩ => ⟨as, PyProof.Rows.Reads.keeps (fun _ _ => W.sorting_copy_old) r⟩
  have hL2 : vs.length ≤ sizeLine := by rw [e.length]; exact hL
  exact sorted_of_sortU hl hL2 fun _ => W.list_sort_vals (s := { s with heap := W.copyHeap s.heap vs }) (W.copyHeap_at s.heap vs)
    (W.SortsAt.data (s := { s with heap := W.sortingHeap (W.copyHeap s.heap vs) (s.heap.objs.size + 1) vs }) (W.each_map (R := fun v d => ∃ as, Reads (W.sortingHeap (W.copyHeap s.heap vs) (s.heap.objs.size + 1) vs) v d as) id er') hal hk (W.bound_map hu)) hL2
    ⟨rfl, h _ (by rw [W.sortVals_length false rfl]; exact e.length) (W.sortVals_data false e er' hal)⟩
theorem bi_sorted (hu : X.A.units + 70 < cLine) : CallR X (.builtin "sorted") (rBi X.K .sorted) := by
  intro pins s σ H vs us Q I r h
  obtain ⟨S, ds, q, hr, hS, hb, cont⟩ := h
  unfold biR at hb
  split at hb <;> first | exact hb.elim | contradiction | skip
  · obtain ⟨v, rfl, h1⟩ := hr.one_
    obtain ⟨a, xs, rfl, _, ha, r1⟩ := h1.lst_
    obtain ⟨⟨al, so, sh⟩, hq⟩ := hb
    obtain ⟨u, rfl, ru⟩ := vals1 r
    cases (show u = Value.ref a from ru)
    obtain ⟨its, rv, pl, hz⟩ := I.list (SqL.of ha)
    obtain ⟨e1, e2⟩ := reads_all I r1 rv sh
    refine W.sorted_data (enc := id) pl.isList e1 e2 (by simpa using al) (by simpa using so) (by rw [r1.length]; exact hz) (fun d hd => ?_) fun out ho e3 => ?_
    · have := SeqAt.depth_of_shaped (sh d hd)
      show X.A.units + 2 + PyData.depth d < cLine
      omega
    · obtain ⟨ys, rv', r3⟩ := each_back e3
      obtain ⟨ep, hat⟩ := sortedAll_at s.heap its out.toArray
      have hn : H (s.heap.objs.size + 1) = none := I.hok.fresh (by omega)
      have hy : ys.length ≤ sizeLine := by rw [rv'.length, ho, r1.length]; exact hz
      refine ⟨.ref (s.heap.objs.size + 1), _, I.laid (t' := s.toks) (fun b o hb => sortedAll_old hb) (by omega) ?_, rfl, cont _ _ _ (same_upd hn) (new_lst r3 hn (hS _ hn)) hq⟩
      exact ⟨hy, out, ep, rv', hat⟩
  · obtain ⟨v, rfl, h1⟩ := hr.one_
    obtain ⟨a, xs, rfl, ha, r1⟩ := h1.tup_
    obtain ⟨⟨al, so, sh⟩, hq⟩ := hb
    obtain ⟨u, rfl, ru⟩ := vals1 r
    cases (show u = Value.ref a from ru)
    obtain ⟨its, rv, pl, hz⟩ := I.tuple ha
    obtain ⟨e1, e2⟩ := reads_all I r1 rv sh
    refine sorted_dataU pl e1 e2 (by simpa using al) (by simpa using so) (by rw [r1.length]; exact hz) (fun d hd => ?_) fun out ho e3 => ?_
    · have := SeqAt.depth_of_shaped (sh d hd)
      show X.A.units + 2 + PyData.depth d < cLine
      omega
    · obtain ⟨ys, rv', r3⟩ := each_back e3
      obtain ⟨ep, hat⟩ := sortedAll_at s.heap its out.toArray
      have hn : H (s.heap.objs.size + 1) = none := I.hok.fresh (by omega)
      have hy : ys.length ≤ sizeLine := by rw [rv'.length, ho, r1.length]; exact hz
      refine ⟨.ref (s.heap.objs.size + 1), _, I.laid (t' := s.toks) (fun b o hb => sortedAll_old hb) (by omega) ?_, rfl, cont _ _ _ (same_upd hn) (new_lst r3 hn (hS _ hn)) hq⟩
      exact ⟨hy, out, ep, rv', hat⟩
end
end Uq

set_option maxHeartbeats 1000000
/-! Uq, part i: built-ins as calls, isinstance, calls by keywords. -/
namespace Uq
open PySem PySem.Spec PyProof.Rows L2
section
variable {X : Cx} {P : Pg} {cl : Cl} {W : WX} {a' b' : Expr} {a b : C} {pos p : Pos} {x : Str} {cs ds : List C} {es : List Expr} {f : Bi} {id T : String}
theorem bi_read {K : PySem.W.Frag} {σ : L2.St} {H : Hp} {Q : VK} (h : tE K P cl W (.bi f cs) σ H Q) : tCB (rBi K f) (tEsL K P cl W cs) σ H Q := by
  obtain ⟨S0, LL, ρ, q, e, R, hw, hq, he⟩ := h
  exact ⟨S0, LL, ρ, _, e, R, hw, fun ds vs H1 s1 r1 l1 h1 => ⟨_, ds, q, r1, R.nmF s1, h1, fun d v H' s r hd => hq d v H' (sq_ s1 s) (Res.from s1 r).any hd⟩, he⟩
theorem e_biB (hc : CallR X (.builtin id) (rBi X.K f)) (hg : Gl X x) (hm : X.mg x = none) (hv : bootBuiltins x = some (.builtin id)) (ha : PA X (a' :: es) (tEsL X.K P cl W cs)) (hn : x ≠ "__name__") (hdb : (x == ("__debug__" : Str)) = false)
    (he : starEach (a' :: es) X.env = (false, eval a' X.env) :: starEach es X.env) (hpl : (backTo pos (starEach es X.env)).any (·.1) = false) : PE X (.Call (.Name x p) (a' :: es) [] pos) (tE X.K P cl W (.bi f cs)) :=
  peI (pe_callB hc hg hm hv ha hn hdb he hpl) fun σ H Q h => bi_read h
theorem e_biT (hc : CallR X (.type T) (rBi X.K f)) (hg : Gl X x) (hm : X.mg x = none) (hv : bootBuiltins x = some (.type T)) (ha : PA X (a' :: es) (tEsL X.K P cl W cs)) (hn : x ≠ "__name__") (hdb : (x == ("__debug__" : Str)) = false)
    (he : starEach (a' :: es) X.env = (false, eval a' X.env) :: starEach es X.env) (hpl : (backTo pos (starEach es X.env)).any (·.1) = false) : PE X (.Call (.Name x p) (a' :: es) [] pos) (tE X.K P cl W (.bi f cs)) :=
  peI (pe_callTy hc hg hm hv ha hn hdb he hpl) fun σ H Q h => bi_read h
theorem e_bi0 {e : Expr} : PE X e (tE X.K P cl W (.bi f [])) := ⟨fun pins s σ H Q I h => by
  obtain ⟨S0, LL, ρ, q, e, R, hw, hq, he⟩ := h
  have hw' : biR f [] q := hw
  unfold biR at hw'
  split at hw' <;> first | exact hw'.elim | contradiction⟩
theorem e_bits {apos : Pos} (ha : PE X a' (tE X.K P cl W a)) (hbase : attributeBase a' "bit_length" X.env (eval a' X.env) = eval a' X.env) (hline : (apos.endLine == pos.line) = true) : PE X (.Call (.Attribute a' "bit_length" apos) [] [] pos) (tE X.K P cl W (.bi .bits [a])) := by
  refine peI (pe_bits ha hbase hline) fun σ H Q ⟨S0, LL, ρ, q, e, R, hw, hq, he⟩ => ⟨S0, LL, ρ, _, e, R, hw, fun d v H1 s1 r1 h1 => ?_, he⟩
  have h1 : biR .bits [d] q := h1
  cases d <;> first | exact h1.elim | skip
  exact ⟨_, r1.1.int_, hq _ _ H1 s1 res_int h1⟩
/-! ### isinstance -/
def dTy : D → String
  | .none => "NoneType"
  | .bool _ => "bool"
  | .int _ => "int"
  | .str _ => "str"
  | .list _ => "list"
  | .tuple _ => "tuple"
  | .dict _ => "dict"
theorem dTyX {K : PySem.W.Frag} {S : Addr → Prop} {H : Hp} {d : D} {v : V} (h : Rp K S H d v) (ho : opq d = false) : TyX K H v (.type (dTy d)) := by
  cases d with
  | none => have e := h.non_; subst e; exact .base .non
  | bool b => have e := h.bl_; subst e; exact .base (.bl _)
  | int b => have e := h.int_; subst e; exact .base (.int _)
  | str b => have e := h.str_; subst e; exact .base (.str _)
  | list ds => obtain ⟨a, xs, rfl, _, ha, _⟩ := h.lst_; exact .base (.lst ha)
  | tuple ds =>
    obtain ⟨a, xs, rfl, ha, _⟩ := h.tup_
    rcases ha with (ha | ⟨o, ha⟩) | ⟨o, its, n, h1, h2, _⟩
    · exact .base (.tup ha)
    · exact .fTuple ha
    · exact .kTuple h1 h2
  | dict ds => cases ho
def tyS : Ty → String
  | .int => "int"
  | .bool => "bool"
  | .str => "str"
  | .tuple => "tuple"
  | .list => "list"
  | .dict => "dict"
theorem kitTbl (t : Ty) : kitB "NoneType" (tyS t) = some false ∧ kitB "bool" (tyS t) = some (decide (t = .int ∨ t = .bool)) ∧ kitB "int" (tyS t) = some (decide (t = .int)) ∧ kitB "str" (tyS t) = some (decide (t = .str)) ∧ kitB "list" (tyS t) = some (decide (t = .list)) ∧
    kitB "tuple" (tyS t) = some (decide (t = .tuple)) := by cases t <;> decide +kernel
theorem kitT {K : PySem.W.Frag} {d : D} (ho : opq d = false) (t : Ty) : PySem.W.kitOne K (.type (dTy d)) (.type (tyS t)) = some (isTy t d) := by
  refine kit_ty ?_
  obtain ⟨h1, h2, h3, h4, h5, h6⟩ := kitTbl t
  cases d with
  | none => exact h1.trans (by cases t <;> rfl)
  | bool b => exact h2.trans (by cases t <;> rfl)
  | int b => exact h3.trans (by cases t <;> rfl)
  | str b => exact h4.trans (by cases t <;> rfl)
  | list b => exact h5.trans (by cases t <;> rfl)
  | tuple b => exact h6.trans (by cases t <;> rfl)
  | dict b => cases ho
theorem tyBoot (t : Ty) : bootBuiltins (tyN t) = some (.type (tyS t)) := by cases t <;> decide +kernel
theorem kitTs {K : PySem.W.Frag} {d : D} (ho : opq d = false) : ∀ ts : List Ty, PySem.W.kitAny K (.type (dTy d)) (ts.map fun t => Value.type (tyS t)) = some (ts.any fun t => isTy t d)
  | [] => kitAny_nil
  | t :: ts => by
    refine kitAny_cons (kitT ho t) (fun e => ?_) fun e => ?_
    · rw [List.any_cons, e, Bool.false_or]; exact kitTs ho ts
    · rw [List.any_cons, e, Bool.true_or]
/-- the types' names, all built-ins here -/
structure TyFree (X : Cx) (t : Ty) : Prop where
  gl : Gl X (tyN t)
  mg : X.mg (tyN t) = none
theorem e_ty {t : Ty} (F : TyFree X t) : PE X (.Name (tyN t) pos) (tC (.ty (tyS t))) :=
  pe_bltn F.gl F.mg (tyBoot t) rfl (by cases t <;> decide) (by cases t <;> decide)
def tLs (vs : List V) : TA := fun _ H Q => Q vs H
theorem pa_tys : ∀ (ts : List Ty) (es : List Expr), (∀ t ∈ ts, TyFree X t) → chkTys X.env.scope ts es = true → PA X es (tLs (ts.map fun t => .ty (tyS t)))
  | [], [], _, _ => paI pa_nil fun _ _ _ h => h
  | t :: ts, e :: es, F, h => by
    simp only [chkTys, Bool.and_eq_true] at h
    have he : ∃ p, e = .Name (tyN t) p := by
      have h1 := h.1.1
      unfold nameIs at h1
      split at h1
      · rename_i y p
        exact ⟨p, by rw [of_decide_eq_true h1]⟩
      · cases h1
    obtain ⟨p, rfl⟩ := he
    exact paI (pa_cons (e_ty (F t List.mem_cons_self)) (pa_tys ts es (fun t ht => F t (List.mem_cons_of_mem _ ht)) h.2) rfl) fun _ _ _ h => h
  | [], _ :: _, _, h => by cases h
  | _ :: _, [], _, h => by cases h
theorem paired_ty : ∀ ts : List Ty, Paired ClsV (ts.map fun t => V.ty (tyS t)) (ts.map fun t => Value.type (tyS t))
  | [] => .nil
  | t :: ts => .cons (.ty _) (paired_ty ts)
theorem isi_boot : bootBuiltins "isinstance" = some (.builtin "isinstance") := by decide +kernel
theorem e_isi1 {t : Ty} {q : Pos} (hg : Gl X "isinstance") (hm : X.mg "isinstance" = none) (F : TyFree X t) (ha : PE X a' (tE X.K P cl W a)) (hs : okE a' = true) : PE X (.Call (.Name "isinstance" p) [a', .Name (tyN t) q] [] pos) (tE X.K P cl W (.isi a [t])) := by
  have pa2 : PA X [.Name (tyN t) q] (tLs [.ty (tyS t)]) := paI (pa_cons (e_ty F) pa_nil rfl) fun _ _ _ h => h
  refine peI (pe_callB call_isi hg hm isi_boot (pa_cons ha pa2 (okE_star hs)) (by decide) (by decide) (okE_star hs) rfl) fun σ H Q ⟨S0, LL, ρ, q, e, R, hw, hq, he⟩ => ?_
  refine ⟨S0, LL, ρ, _, e, R, hw, fun d v H1 s1 r1 h1 => ?_, he⟩
  have k := kitT (K := X.K) h1.1 t
  refine ⟨v, .ty (tyS t), .type (dTy d), .type (tyS t), isTy t d, rfl, .ty _, dTyX r1.1 h1.1, k, hq _ _ H1 s1 res_bl ?_⟩
  have h2 := h1.2
  rwa [List.any_cons, List.any_nil, Bool.or_false] at h2
theorem e_isiT {ts : List Ty} {es : List Expr} {n : Nat} {q : Pos} (hg : Gl X "isinstance") (hm : X.mg "isinstance" = none) (F : ∀ t ∈ ts, TyFree X t) (hl : ts.length ≤ 10) (ht : chkTys X.env.scope ts es = true) (ha : PE X a' (tE X.K P cl W a)) (hs : okE a' = true) :
    PE X (.Call (.Name "isinstance" p) [a', .Tuple es n q] [] pos) (tE X.K P cl W (.isi a ts)) := by
  have pa1 := pa_tys (X := X) ts es F ht
  have pt : PE X (.Tuple es n q) (fun _ H Q => ∀ p, H p = none → Q (.ref p) (upd H p (.tup (ts.map fun t => V.ty (tyS t))))) := peI (pe_tup pa1) fun σ H Q h => ⟨by rw [List.length_map]; exact Nat.le_trans hl (by decide), h⟩
  have pa2 : PA X [.Tuple es n q] (fun _ H Q => ∀ p, H p = none → Q [.ref p] (upd H p (.tup (ts.map fun t => V.ty (tyS t))))) := paI (pa_cons pt pa_nil rfl) fun _ _ _ h => h
  refine peI (pe_callB call_isiT hg hm isi_boot (pa_cons ha pa2 (okE_star hs)) (by decide) (by decide) (okE_star hs) rfl) fun σ H Q ⟨S0, LL, ρ, q, e, R, hw, hq, he⟩ => ?_
  refine ⟨S0, LL, ρ, _, e, R, hw, fun d v H1 s1 r1 h1 => fun p hp => ?_, he⟩
  refine ⟨v, p, _, .type (dTy d), _, _, rfl, upd_same, paired_ty ts, dTyX (r1.1.same (same_upd hp)) h1.1, kitTs h1.1 ts, hq _ _ _ (sq_ s1 (same_upd hp)) res_bl h1.2⟩

/-! ### calls by keywords -/
def permU (pm : List Nat) (us ws : List Value) : List Value := pm.map fun j => (us ++ ws).getD j .none
theorem Vals.app : ∀ {vs : List V} {us : List Value} {zs : List V} {ws : List Value}, Vals vs us → Vals zs ws → Vals (vs ++ zs) (us ++ ws)
  | _, _, _, _, .nil, z => z
  | _, _, _, _, .cons r t, z => .cons r (Vals.app t z)
theorem Vals.permU {vs zs : List V} {us ws : List Value} (r : Vals vs us) (z : Vals zs ws) : ∀ pm : List Nat, Vals (permV pm vs zs) (permU pm us ws)
  | [] => .nil
  | j :: pm => by
    refine .cons ?_ (Vals.permU r z pm)
    have q := Vals.app r z
    show RelV ((vs ++ zs).getD j .non) ((us ++ ws).getD j .none)
    rw [List.getD_eq_getElem?_getD, List.getD_eq_getElem?_getD]
    cases e : (vs ++ zs)[j]? with
    | none =>
      have e2 : (us ++ ws)[j]? = none := by
        rw [List.getElem?_eq_none_iff] at e ⊢
        rw [← q.length]; exact e
      rw [e2]; rfl
    | some v =>
      obtain ⟨u, e2, r2⟩ := q.get e
      rw [e2]; exact r2
/-- a def's values by names, as the call is shaped -/
def Shp (K : PySem.W.Frag) (fd : FuncData) (ps : List Str) (n : Nat) (ks : List Str) : Prop := KBn K fd ps n ks (permU (pmOf ps n ks)) (permV (pmOf ps n ks))
theorem Shp.of {K : PySem.W.Frag} {fd : FuncData} {ps : List Str} {n : Nat} {ks : List Str} (h : ∀ (s : Shared) (us ws : List Value), K.In s.heap → us.length = n → ws.length = ks.length → BindsTo s fd ⟨us, ks.zip ws⟩ (ps.zip (permU (pmOf ps n ks) us ws))) : Shp K fd ps n ks :=
  ⟨h, fun r z => Vals.permU r z _⟩
theorem tEsK_tEsL {K : PySem.W.Frag} {σ : L2.St} {H : Hp} {Q : List V → List V → Hp → Prop} (h : tEsL K P cl W (cs ++ ds) σ H (fun vs H' => ∃ xs ys, vs = xs ++ ys ∧ xs.length = cs.length ∧ ys.length = ds.length ∧ Q xs ys H')) :
    tEsL K P cl W cs σ H fun xs H1 => tEsL K P cl W ds σ H1 fun ys H2 => xs.length = cs.length ∧ ys.length = ds.length ∧ Q xs ys H2 := by
  obtain ⟨S0, LL, ρ, q, e, R, hw, hq, he⟩ := h
  rw [wEs_app] at hw
  refine ⟨S0, LL, ρ, _, e, R, hw, fun d1 xs H1 s1 r1 l1 h1 => ⟨S0, LL, ρ, _, e, R.same s1, h1, fun d2 ys H2 s2 r2 l2 h2 => ?_, fun k fs cv dx H' s x h => he k fs cv dx H' (sq_ s1 s) x h⟩, he⟩
  have lx : xs.length = cs.length := r1.length.symm.trans l1
  have ly : ys.length = ds.length := r2.length.symm.trans l2
  have en : ∀ (cs ds : List C), nmsL (cs ++ ds) = nmsL cs ++ nmsL ds := fun cs => by
    induction cs with
    | nil => intro ds; rfl
    | cons c cs ih => intro ds; show nms c ++ nmsL (cs ++ ds) = nms c ++ nmsL cs ++ nmsL ds; rw [ih, List.append_assoc]
  have rr : Rps K (NmS S0 LL (nmsL (cs ++ ds))) H2 (d1 ++ d2) (xs ++ ys) := by
    rw [en]
    exact ((r1.same s2).wide fun _ _ _ z => z.sub inl_).append (r2.wide fun _ _ _ z => z.sub inr_)
  obtain ⟨xs', ys', e1, l1', l2', hQ⟩ := hq (d1 ++ d2) (xs ++ ys) H2 (sq_ s1 s2) rr (by rw [List.length_append, List.length_append, l1, l2]) h2
  have := List.append_inj e1 (by rw [lx, l1'])
  rw [this.1, this.2]
  exact ⟨l1', l2', hQ⟩
section
variable {k n : Nat} {fa : Addr} {fd : FuncData} {ps ks : List Str} {sp : Sp} {kws : List Keyword} {g : List Value → List Value → List Value} {gV : List V → List V → List V} {i : Nat}
theorem run_fnNS {E : XK} {pins : List (Addr × Obj)} {σ : L2.St} {H : Hp} {s : Shared} {Q : VK} {us ws : List Value} {vs zs : List V} (F : FnOk X.prog X.w X.K X.mg X.base (L2.CX X.prog X.w) k fa fd ps sp) (hr : Room k X.A) (hb : KBn X.K fd ps n ks g gV) (hx : PassesAt (L2.CX X.prog X.w) X σ E)
    (I : Inv X pins σ H s) (r : Vals vs us) (rz : Vals zs ws) (l1 : vs.length = n) (l2 : zs.length = ks.length) (h : sp (gV vs zs) H Q E) : wpAny (model X.prog X.w) X.A (call (.ref fa) us (ks.zip ws)) (EP X pins σ Q) X.xe s := by
  have r2 := hb.rel r rz
  refine wpAny_call (codeAny_mono (F.run X.A X.stack s H ⟨us, ks.zip ws⟩ (g us ws) (gV vs zs) Q E hr I.env0 (hb.to s us ws I.kIn (r.length.symm.trans l1) (rz.length.symm.trans l2)) r2 h) fun r s' hq => ?_)
  cases r with
  | error e => exact hx pins H s e s' I hq
  | ok fl =>
    cases fl with
    | ret u => exact I.after hq
    | next => exact False.elim hq
    | brk => exact False.elim hq
    | cont => exact False.elim hq
theorem kw_all (h : (kws.all fun k => k.arg.isSome) = true) (env : PySem.Env) : (backToKw pos (keywordEach kws env)).all (·.1.isSome) = true ∧ (backToKw pos (keywordEach kws env)).any (·.1.isNone) = false ∧ (backToKw pos (keywordEach kws env)).filterMap (·.1) = kwNames kws := by
  induction kws with
  | nil => exact ⟨rfl, rfl, rfl⟩
  | cons kw kws ih =>
    obtain ⟨nm, v, q⟩ := kw
    simp only [List.all_cons, Bool.and_eq_true] at h
    obtain ⟨i1, i2, i3⟩ := ih h.2
    cases nm with
    | none => cases h.1
    | some nm => exact ⟨i1, i2, congrArg (nm :: ·) i3⟩
/-- the values by place and by name -/
def PKs (X : Cx) (kws : List Keyword) (t : TA) : Prop := PK X kws t
theorem call_kw_read {K : PySem.W.Frag} {σ : L2.St} {H : Hp} {Q : VK} {f : Nat} (hn : cs.length = n) (hk : ds.length = ks.length) (hp : pmOf ps n ks ≠ []) (h : tE K P cl W (.call f (pmOf ps n ks) (cs ++ ds)) σ H Q) :
    tEsL K P cl W cs σ H fun vs H1 => tEsL K P cl W ds σ H1 fun zs H2 => vs.length = cs.length ∧ zs.length = ds.length ∧ spF K P ps.length (cl.call f) (permV (pmOf ps n ks) vs zs) H2 Q (WE W σ) := by
  obtain ⟨S0, LL, ρ, q, e, R, hw, hq, hE⟩ := h
  refine tEsK_tEsL ⟨S0, LL, ρ, _, e, R, hw, fun dd vs H1 s1 r1 l1 h1 => ?_, hE⟩
  have lv : vs.length = cs.length + ds.length := by rw [← r1.length, l1, List.length_append]
  refine ⟨vs.take cs.length, vs.drop cs.length, (List.take_append_drop _ _).symm, by rw [List.length_take]; omega, by rw [List.length_drop]; omega, ?_⟩
  have rp := r1.perm (pmOf ps n ks)
  have e1 : permV (pmOf ps n ks) (vs.take cs.length) (vs.drop cs.length) = (pmOf ps n ks).map fun j => vs.getD j .non := by unfold permV; rw [List.take_append_drop]
  have h1 : cl.call f (pmL (pmOf ps n ks) dd) q e := h1
  have e2 : pmL (pmOf ps n ks) dd = (pmOf ps n ks).map fun j => dd.getD j .none := by
    unfold pmL
    split
    · rename_i e; exact absurd e hp
    · rfl
  rw [e1]
  rw [e2] at h1
  exact ⟨_, _, q, e, rp, R.nmF s1, h1, by simp [pmOf], fun d v H' s r hd => hq d v H' (sq_ s1 s) (.fls r) hd, fun k fs cv dx H' s x h => hE k fs cv dx H' (sq_ s1 s) x h⟩
theorem e_callK {f : Nat} {e0 : Expr} (F : FnOk X.prog X.w X.K X.mg X.base (L2.CX X.prog X.w) k fa fd ps (spF X.K P ps.length (cl.call f))) (tk : Takes X W) (hr : Room k X.A) (hg : Gl X x) (hm : X.mg x = some (.ref fa)) (hk : PySem.W.keepIn X.K (.ref fa) = true) (hb : Shp X.K fd ps n ks)
    (hn : cs.length = n) (hks : ds.length = ks.length) (hp : pmOf ps n ks ≠ []) (ha : PA X (a' :: es) (tEsL X.K P cl W cs)) (hkw : PK X kws (tEsL X.K P cl W ds)) (hall : (kws.all fun k => k.arg.isSome) = true) (hnm : kwNames kws = ks) (hdb : (x == ("__debug__" : Str)) = false)
    (he : starEach (a' :: es) X.env = (false, eval a' X.env) :: starEach es X.env) (hpl : (backTo pos (starEach (a' :: es) X.env)).any (·.1) = false) : PE X (.Call (.Name x p) (a' :: es) kws pos) (tE X.K P cl W (.call f (pmOf ps n ks) (cs ++ ds))) := by
  obtain ⟨k1, k2, k3⟩ := kw_all (pos := pos) hall X.env
  refine ⟨fun pins s σ H Q I h => ?_⟩
  have h2 := call_kw_read hn hks hp h
  refine wpAny_Call_Name_kw (ld_glob I hg hm ?_ hdb)
  refine PySem.W.callWith_KW (h₀ := X.base) I.ok.mod.kin hk k1 (thn (ha.run pos pins s σ H _ I h2) fun us s1 ⟨vs, H1, I1, r, q⟩ => ?_) (by rw [hpl, k2]; rfl) he
  refine thn (hkw.run pos pins s1 σ H1 _ I1 q) fun ws s2 ⟨zs, H2, I2, rz, l1, l2, q2⟩ => ⟨I2.kIn, ?_⟩
  rw [k3, hnm]
  exact run_fnNS (E := WE W σ) F hr hb (passAt tk σ) I2 r rz (l1.trans hn) (l2.trans hks) q2
theorem e_callK0 {f : Nat} (F : FnOk X.prog X.w X.K X.mg X.base (L2.CX X.prog X.w) k fa fd ps (spF X.K P ps.length (cl.call f))) (tk : Takes X W) (hr : Room k X.A) (hg : Gl X x) (hm : X.mg x = some (.ref fa)) (hk : PySem.W.keepIn X.K (.ref fa) = true) (hb : Shp X.K fd ps 0 ks)
    (hks : ds.length = ks.length) (hp : pmOf ps 0 ks ≠ []) (hkw : PK X kws (tEsL X.K P cl W ds)) (hall : (kws.all fun k => k.arg.isSome) = true) (hnm : kwNames kws = ks) (hdb : (x == ("__debug__" : Str)) = false) :
    PE X (.Call (.Name x p) [] kws pos) (tE X.K P cl W (.call f (pmOf ps 0 ks) ds)) := by
  obtain ⟨k1, k2, k3⟩ := kw_all (pos := pos) hall X.env
  refine ⟨fun pins s σ H Q I h => ?_⟩
  have h2 := call_kw_read (cs := []) rfl hks hp h
  have h3 : tEsL X.K P cl W ds σ H fun zs H2 => zs.length = ds.length ∧ spF X.K P ps.length (cl.call f) (permV (pmOf ps 0 ks) [] zs) H2 Q (WE W σ) := by
    obtain ⟨S0, LL, ρ, q, e, R, hw, hq, hE⟩ := h2
    obtain ⟨S1, LL1, ρ1, q1, e1, R1, hw1, hq1, hE1⟩ := hq [] [] H (Same.refl H) .nil rfl hw
    exact ⟨S1, LL1, ρ1, q1, e1, R1, hw1, fun ds vs H' s r l h => ⟨(hq1 ds vs H' s r l h).2.1, (hq1 ds vs H' s r l h).2.2⟩, hE1⟩
  refine wpAny_Call_Name_kw (ld_glob I hg hm ?_ hdb)
  refine PySem.W.callWith_KW0 (h₀ := X.base) I.ok.mod.kin hk k1 ?_ (by rw [k2]; rfl)
  refine thn (hkw.run pos pins s σ H _ I h3) fun ws s2 ⟨zs, H2, I2, rz, l2, q2⟩ => ⟨I2.kIn, ?_⟩
  rw [k3, hnm]
  exact run_fnNS (E := WE W σ) (us := []) (vs := []) F hr hb (passAt tk σ) I2 .nil rz rfl (l2.trans hks) q2
end
end
end Uq

set_option maxHeartbeats 2000000
/-! Uq, part i2: enumerate over a tuple; a tuple backwards. -/
namespace Uq
open PySem PySem.Spec PyProof.Rows L2
/-- enumerate(v), v by what its iterator begins with -/
theorem enumNew {v : Value} {ob : Obj} {Hh : Heap → Prop} (B : Begins v ob Hh) :
    Meets (Builtin.«enumerate.__new__» ⟨[.type "enumerate", v], []⟩) (fun _ R z => Hh z.heap ∧
      R (.ok (.ret (.ref (z.heap.push ob).objs.size))) { z with heap := (z.heap.push ob).push { cls := .type "enumerate", data := .fields #[.none, .bool false, .ref z.heap.objs.size, rawInt 0, .none, .none] } }) :=
  .of_wp fun prog w A R z hz => by
    obtain ⟨hq, gq, dq, tq, oq⟩ := z; obtain ⟨hq1, hq2⟩ := hz
    have hsub := sub_enumerate
    have itv : ∀ {A' : Around} {E : Value → Shared → Prop} {Q : Value → Shared → Prop}, Q (.ref hq.objs.size) ⟨hq.push ob, gq, dq, tq, oq⟩ → wpAny (model prog w) A' (pyIter v) Q E ⟨hq, gq, dq, tq, oq⟩ := fun q => B.iter prog w _ _ ⟨hq, gq, dq, tq, oq⟩ _ hq1 q
    wp_walk using itv
    refine wpAny_stack_any fun _ => wpAny_pure ?_
    split
    · rename_i cc _ _ _ _ _
      cases (cc == Value.type "enumerate") <;> (wp_walk using itv; exact ⟨_, rfl, hq2⟩)
    · wp_walk using itv; exact ⟨_, rfl, hq2⟩
theorem call_enumT {prog : Program} {w : World} {A : Around} {E : Value → Shared → Prop} {z : Shared} {t : Addr} {its : Array Value} {Q : Value → Shared → Prop} (ht : z.heap.IsTuple t its)
    (h : ∀ h', IsEnum h' (z.heap.objs.size + 1) z.heap.objs.size 0 .none → h'.IsTupleIter z.heap.objs.size t 0 → h'.objs.size = z.heap.objs.size + 2 → (∀ b o, z.heap.get? b = some o → h'.get? b = some o) → Q (.ref (z.heap.objs.size + 1)) { z with heap := h' }) :
    wpAny (model prog w) A (call (.type "enumerate") [.ref t]) Q E z := by
  refine callType_new F.called_enumerate (by decide) (F.typeCall_enumerate_1 _) (F.newCall_enumerate_1 _) (fun ob2 => F.args_object_init_2 ob2 _) F.entry_enumerate_new (enumNew (begins_tuple t its)) ⟨ht, ?_⟩
  have s1 : (z.heap.push { cls := .type "tuple_iterator", data := .fields #[.ref t, .int 0 0] }).objs.size = z.heap.objs.size + 1 := Heap.size_push ..
  show _ ∧ _
  rw [s1]
  have en : IsEnum ((z.heap.push { cls := .type "tuple_iterator", data := .fields #[.ref t, .int 0 0] }).push { cls := .type "enumerate", data := .fields #[.none, .bool false, .ref z.heap.objs.size, rawInt 0, .none, .none] }) (z.heap.objs.size + 1) z.heap.objs.size 0 .none := by
    have g := Heap.get?_push_size (z.heap.push { cls := .type "tuple_iterator", data := .fields #[.ref t, .int 0 0] }) (o := { cls := .type "enumerate", data := .fields #[.none, .bool false, .ref z.heap.objs.size, rawInt 0, .none, .none] }) rfl
    rw [s1] at g; exact g
  exact ⟨⟨_, en, rfl⟩, h _ en ⟨_, Heap.get?_push_of_some _ (Heap.get?_push_size _ rfl), rfl, rfl⟩ (by rw [Heap.size_push, s1]) fun b o x => Heap.get?_push_of_some _ (Heap.get?_push_of_some _ x)⟩
/-- the tuple at a, each item in a new pair -/
def ItE (Kf : PySem.W.Frag) (a : Addr) : It :=
  ⟨fun i H => ∃ (xs : List V) (x : V), SqT Kf H a xs ∧ xs[i]? = some x, fun i H v H' => ∃ T x, v = .ref T ∧ H T = none ∧ H' = upd H T (.tup [.int (i : Nat), x]) ∧ ∀ xs, SqT Kf H a xs → xs[i]? = some x, fun i H => ∃ xs : List V, SqT Kf H a xs ∧ xs.length ≤ i⟩
theorem cls_ne {h : Heap} {a b : Addr} {o o2 : Obj} {m n : String} (ha : h.get? a = some o) (hb : h.get? b = some o2) (ca : o.cls = .type m) (cb : o2.cls = .type n) (d : m ≠ n) : a ≠ b := fun z => by
  rw [z, hb] at ha
  cases ha
  rw [ca] at cb
  exact d (Value.type.inj cb)
theorem turnE {prog : Program} {w : World} {Kf : PySem.W.Frag} {elts : List Expr} {kk : Nat} {tpos : Pos} (a e it : Addr) :
    Turn prog w Kf (.Tuple elts kk tpos) (ItE Kf a) [e, it] e (fun i h => (∃ old, IsEnum h e it ((i : Nat) : Int) old) ∧ h.IsTupleIter it a i ∧ e ≠ it) where
  mem := List.mem_cons_self
  obj := fun i h st b hb => by
    obtain ⟨⟨old, he⟩, ⟨o, ho, _, hd⟩, _⟩ := st
    rcases List.mem_cons.mp hb with z | z
    · rw [z]; exact ⟨_, he, fun v q => nomatch q⟩
    · rw [List.mem_singleton.mp z]; exact ⟨o, ho, fun v q => by rw [hd] at q; cases q⟩
  keep := fun i h h' st k => let ⟨⟨old, en⟩, ti, ne⟩ := st; ⟨⟨old, k e List.mem_cons_self _ en⟩, ti.at fun o q => k it (List.mem_cons_of_mem _ List.mem_cons_self) o q, ne⟩
  item := by
    intro X eP ew eK hc i pins s σ H E I hf st hg
    subst eP ew eK
    obtain ⟨⟨old, en⟩, ti, ne⟩ := st
    obtain ⟨xs, x, hq, hx⟩ := hg
    obtain ⟨its, rv, tp, _⟩ := I.tuple hq
    obtain ⟨u, hu, ru⟩ := rv.get hx
    have tp : s.heap.IsTuple a its.toArray := tp
    have elt : e < s.heap.objs.size := Heap.lt_size en
    have ilt : it < s.heap.objs.size := by obtain ⟨_, q, _⟩ := ti; exact Heap.lt_size q
    have nai : a ≠ it := by
      obtain ⟨_, g1, c1, _⟩ := id tp
      obtain ⟨_, g2, c2, _⟩ := id ti
      exact cls_ne g1 g2 c1 c2 (by decide)
    have nae : a ≠ e := by
      obtain ⟨_, g1, c1, _⟩ := id tp
      exact cls_ne g1 en c1 rfl (by decide)
    have hin : X.A.in1.handled = none := I.ok.hd hc
    have ilen : i < its.toArray.size := by
      have := (List.getElem?_eq_some_iff.mp hu).1
      simpa using this
    refine wpAny_pyNext_enum_itemD (Draws.tuple hin it a nai its.toArray) en ⟨ti, tp⟩ ilen ne (by simp [ne, Ne.symm nae]) fun u2 h1 tk eu eo st1 gT sz kp => ?_
    have eu : u2 = u := by
      have h2 : its.toArray[i]? = some u := by simpa using hu
      have eu : its.toArray[i]? = some u2 := eu
      rw [h2] at eu
      exact (Option.some.inj eu).symm
    subst eu
    refine ⟨_, rfl, wpAny_letOwnedTupleGo_enum (s := { s with heap := h1, toks := tk + 1 }) eo fun h2 e2 sb => ?_⟩
    have gT2 : h2.get? s.heap.objs.size = some { cls := .type "tuple", data := .seq #[.int i tk, u2] } := (sb.2 _ (Nat.ne_of_gt elt)).trans gT
    have nw : ObjOk X.prog X.w (upd H s.heap.objs.size (.tup [.int (i : Nat), x])) h2 s.heap.objs.size (.tup [.int (i : Nat), x]) :=
      ⟨by show 2 ≤ sizeLine; decide, [.int i tk, u2], .cons ⟨_, rfl⟩ (.cons ru .nil), ⟨_, gT2, rfl, _, rfl⟩⟩
    have I1 : Inv X pins σ (upd H s.heap.objs.size (.tup [.int (i : Nat), x])) { s with heap := h2, toks := tk + 1 } :=
      I.turnedNew (ch := [e, it]) (fun b ob hb q => (sb.2 b (fun z => hb (by simp [z]))).trans (kp b ob (fun z => hb (by simp [z])) (fun z => hb (by simp [z])) q)) hf (Nat.le_refl _) nw
    refine ⟨.ref s.heap.objs.size, _, I1, rfl, ⟨_, x, rfl, I.hok.fresh (Nat.le_refl _), rfl, fun ys hy => by rw [I.tuple_inj hy hq]; exact hx⟩, ⟨⟨u2, ?_⟩, st1.1.at fun o q => (sb.2 it (Ne.symm ne)).trans q, ne⟩, fun b hb => ?_⟩
    · have z : ((i + 1 : Nat) : Int) = (i : Int) + 1 := by omega
      rw [z]; exact e2
    · have hlt : b < s.heap.objs.size := by
        rcases List.mem_cons.mp hb with z | z
        · rw [z]; exact elt
        · rw [List.mem_singleton.mp z]; exact ilt
      rw [upd_ne (Nat.ne_of_lt hlt)]
      exact (hf b hb).1
  done := by
    intro X eP ew eK hc i pins s σ H E I hf st hg
    subst eP ew eK
    obtain ⟨⟨old, en⟩, ti, ne⟩ := st
    obtain ⟨xs, hq, hx⟩ := hg
    obtain ⟨its, rv, tp, _⟩ := I.tuple hq
    have tp : s.heap.IsTuple a its.toArray := tp
    have nai : a ≠ it := by
      obtain ⟨_, g1, c1, _⟩ := id tp
      obtain ⟨_, g2, c2, _⟩ := id ti
      exact cls_ne g1 g2 c1 c2 (by decide)
    have hin : X.A.in1.handled = none := I.ok.hd hc
    obtain ⟨y0, y1, y2, y3, y4, y5⟩ := hf it (List.mem_cons_of_mem _ List.mem_cons_self)
    have hl := rv.length
    have no : its.toArray[i]? = none := by
      rw [Array.getElem?_eq_none_iff, List.size_toArray]
      omega
    have D0 : Draws X.prog X.w X.A.in1 it [it, a] i (fun _ _ => False) (fun j h => j = i ∧ h.IsTupleIter it a i ∧ h.IsTuple a its.toArray) :=
      ⟨fun _ _ st => let ⟨_, ⟨o, ho, _⟩, _⟩ := st; ⟨o, ho⟩, fun _ _ _ st k => ⟨st.1, st.2.1.at fun o q => k it List.mem_cons_self o q, st.2.2.at fun o q => k a (List.mem_cons_of_mem _ List.mem_cons_self) o q⟩,
        fun j z Q' E' hj st _ => absurd st.1 (Nat.ne_of_lt hj), fun z Q' E' st hE => wpAny_nextOf_tuple_end hin st.2.1 st.2.2 no hE⟩
    exact wpAny_pyNext_enum_endD D0 en ⟨rfl, ti, tp⟩ fun h1 eb => ⟨rfl, I.turned (t' := s.toks) (fun b o hb q => eb b o hb q) y0 y1 y3 y4 y5⟩
  self := fun A i s Q E st h => let ⟨⟨_, en⟩, _⟩ := st; wpAny_pyIter_enum en h
/-- enumerate over a list or a tuple -/
def iEn (Kf : PySem.W.Frag) (ta : TA) : TI := fun σ H R => ta σ H fun vs H1 => (∃ a xs, vs = [.ref a] ∧ SqL Kf H1 a xs ∧ R (Ite Kf a) H1) ∨ ∃ a xs, vs = [.ref a] ∧ SqT Kf H1 a xs ∧ R (ItE Kf a) H1
theorem pi_en {X : Cx} {e : Expr} {ta : TA} {p pos tpos : Pos} {elts : List Expr} {kk : Nat} (hg : Gl X "enumerate") (hm : X.mg "enumerate" = none) (ha : PA X [e] ta) (hs : starEach [e] X.env = [(false, eval e X.env)]) : PI X (.Tuple elts kk tpos) (.Call (.Name "enumerate" p) [e] [] pos) (iEn X.K ta) := by
  refine ⟨fun pins s σ H R I h => ?_⟩
  refine Call_ (ld_blt I hg hm boot_enumerate (PyProof.Rows.callWith_type1 (thn (ha.run pos pins s σ H _ I h) fun us s1 ⟨vs, H1, I1, r1, q1⟩ => ?_) hs rfl))
  have two : ∀ {b : Addr}, b ∈ [s1.heap.objs.size + 1, s1.heap.objs.size] → s1.heap.objs.size ≤ b := fun {b} hb => by
    rcases List.mem_cons.mp hb with z | z
    · rw [z]; exact Nat.le_succ _
    · rw [List.mem_singleton.mp z]; exact Nat.le_refl _
  rcases q1 with ⟨a, xs, ex, hq, q⟩ | ⟨a, xs, ex, hq, q⟩
  · subst ex
    obtain ⟨u, rfl, ru⟩ := vals1 r1
    cases (show u = Value.ref a from ru)
    obtain ⟨its, rv, lp, _⟩ := I1.list hq
    refine call_enumerate_list lp.isList fun h1 en li sz kp => wpAny_pyIter_enum en ?_
    have I2 : Inv X pins σ H1 { s1 with heap := h1 } := I1.kept (t' := s1.toks) kp
    exact ⟨s1.heap.objs.size + 1, [s1.heap.objs.size + 1, s1.heap.objs.size], _, _, H1, rfl, I2, turn_enum a (s1.heap.objs.size + 1) s1.heap.objs.size, ⟨⟨.none, en⟩, li, Nat.succ_ne_self _⟩, fun b hb => I1.fpOk (two hb) (I1.hok.fresh (two hb)), q⟩
  · subst ex
    obtain ⟨u, rfl, ru⟩ := vals1 r1
    cases (show u = Value.ref a from ru)
    obtain ⟨its, rv, tp, _⟩ := I1.tuple hq
    refine call_enumT (show s1.heap.IsTuple a its.toArray from tp) fun h1 en ti sz kp => wpAny_pyIter_enum en ?_
    have I2 : Inv X pins σ H1 { s1 with heap := h1 } := I1.kept (t' := s1.toks) kp
    exact ⟨s1.heap.objs.size + 1, [s1.heap.objs.size + 1, s1.heap.objs.size], _, _, H1, rfl, I2, turnE a (s1.heap.objs.size + 1) s1.heap.objs.size, ⟨⟨.none, en⟩, ti, Nat.succ_ne_self _⟩, fun b hb => I1.fpOk (two hb) (I1.hok.fresh (two hb)), q⟩
end Uq

set_option maxHeartbeats 2000000
/-! Uq, part i3: a tuple backwards; list(range). -/
namespace Uq
open PySem PySem.Spec PyProof.Rows L2
theorem revIx {α : Type} (xs : List α) : ((List.range xs.length).filterMap fun (m : Nat) => xs.toArray[(((xs.length : Int) - 1) + (m : Int) * (-1)).toNat]?) = xs.reverse := by
  have e : (List.range xs.length).map (fun (m : Nat) => xs.toArray[(((xs.length : Int) - 1) + (m : Int) * (-1)).toNat]?) = xs.reverse.map some := by
    apply List.ext_getElem?
    intro m
    by_cases h : m < xs.length
    · rw [List.getElem?_map, List.getElem?_range h, List.getElem?_map, List.getElem?_reverse h]
      have z : (((xs.length : Int) - 1) + (m : Int) * (-1)).toNat = xs.length - 1 - m := by omega
      simp only [Option.map_some, z, List.getElem?_toArray]
      rw [List.getElem?_eq_getElem (by omega)]
      rfl
    · rw [List.getElem?_eq_none (by simp; omega), List.getElem?_eq_none (by simp; omega)]
  have f : ∀ {β : Type} (l : List β) (g : β → Option α), l.filterMap g = (l.map g).filterMap id := fun l g => by rw [List.filterMap_map]; rfl
  rw [f, e, List.filterMap_map]
  simp
theorem sliceBack {prog : Program} {w : World} {A : Around} {E : Value → Shared → Prop} {s : Shared} {sl : Addr} {vs : Value} {n : Nat} {Q : Int × Int × Nat → Shared → Prop} (hs : s.heap.IsSliceOf sl .none .none vs) (ps : IsPart vs (some (-1)))
    (h : Q ((n : Int) - 1, -1, n) s) : wpAny (model prog w) A (Builtin.Slice.sliceApplied (.ref sl) (pure (n : Int))) Q E s := by
  obtain ⟨os, hos, hcs, hds⟩ := id hs
  unfold Builtin.Slice.sliceApplied Builtin.Slice.sliceFields
  refine wpAny_bind (wpAny_bind (wpAny_field hos hds (x := .none) rfl (wpAny_bind (wpAny_field hos hds (x := .none) rfl (wpAny_bind (wpAny_field hos hds (x := vs) rfl (wpAny_pure ?_)))))))
  cases ps with
  | int i t =>
    refine wpAny_bind (slicePart_int ?_)
    show wpAny _ _ (if ((-1 : Int) == 0) = true then _ else _) _ _ s
    rw [if_neg (by decide)]
    refine wpAny_bind (slicePart_none (wpAny_bind (slicePart_none (wpAny_bind (wpAny_pure ?_)))))
    show wpAny _ _ (match Builtin.Slice.sliceAdjust none none (-1) (n : Int) with | (lo, hi) => pure (lo, (-1 : Int), Builtin.Slice.slicePlaces lo hi (-1))) _ _ s
    have ea : Builtin.Slice.sliceAdjust none none (-1) (n : Int) = ((n : Int) - 1, -1) := by
      unfold Builtin.Slice.sliceAdjust
      rfl
    have ep : Builtin.Slice.slicePlaces ((n : Int) - 1) (-1) (-1) = n := by
      unfold Builtin.Slice.slicePlaces
      have h1 : ¬ ((-1 : Int) > 0) := by decide
      simp only [h1, if_false]
      split <;> first | omega | (simp <;> omega)
    rw [ea]
    show wpAny _ _ (pure ((n : Int) - 1, (-1 : Int), Builtin.Slice.slicePlaces ((n : Int) - 1) (-1) (-1))) _ _ s
    rw [ep]
    exact wpAny_pure h
theorem getItem_tupBack {prog : Program} {w : World} {A : Around} {E : Value → Shared → Prop} {s : Shared} {t sl : Addr} {items : List Value} {vs : Value} {Q : Value → Shared → Prop} (ht : IsTup s.heap t items.toArray) (hs : s.heap.IsSliceOf sl .none .none vs) (ps : IsPart vs (some (-1)))
    (h : Q (.ref s.heap.objs.size) { s with heap := s.heap.push { cls := .type "tuple", data := .seq items.reverse.toArray } }) (hz : items.length ≤ sizeLine) : wpAny (model prog w) A (getItem (.ref t) (.ref sl)) Q E s := by
  have hfit : sizeOk (.seq items.reverse.toArray) := by
    show items.reverse.toArray.size ≤ sizeLine
    rw [List.size_toArray, List.length_reverse]; exact hz
  obtain ⟨os, hos, hcs, hds⟩ := id hs
  have hTs : s.TypeIs (.ref sl) "slice" := ⟨os, hos, hcs⟩
  unfold getItem
  try with_reducible refine wpAny_holding ?_
  first | refine wpAny_bind (wpAny_pure ?_) | skip
  refine wpAny_bind (wpAny_sequenceKey ht.typeIs (by decide) ?_)
  refine wpAny_bind (wpAny_callSpecial?_slot (name := Str.ofString "__getitem__") ht.typeIs PyProof.Rows.slot_tuple_getitem (wpAny_call_entry PyProof.Rows.slot_tuple_getitem ht.typeIs entry_tuple_getitem ?_ (args_tuple_getitem _ _)))
  show wpAny _ _ (Builtin.Tuple.tupleItemsOf (.ref t) >>= _) _ _ s
  refine wpAny_bind (tupleItemsOf_ ht (wpAny_bind (wpAny_typeOf hTs ?_)))
  rw [if_pos (by decide)]
  have esz : items.toArray.size = items.length := by simp
  refine wpAny_bind (m := Builtin.Slice.sliceApplied _ _) ?_
  rw [esz]
  refine sliceBack hs ps ?_
  have hno : ¬ ((((items.length : Int) - 1) == 0 && (-1 : Int) == 1 && items.length == items.toArray.size) = true) := by
    intro q
    rw [Bool.and_eq_true, Bool.and_eq_true] at q
    exact absurd (eq_of_beq q.1.2) (by decide)
  show wpAny _ _ (if (((items.length : Int) - 1) == 0 && (-1 : Int) == 1 && items.length == items.toArray.size) = true then _ else _) _ _ s
  rw [if_neg hno, revIx]
  first
    | exact wpAny_bind (m := Builtin.Tuple.tupleExact _) (wpAny_newObj_type (wpAny_pure ⟨_, rfl, wpAny_pure h⟩) hfit)
    | exact wpAny_bind (m := Builtin.Tuple.tupleExact _) (wpAny_newObj_type (wpAny_bind (wpAny_pure (wpAny_pure ⟨_, rfl, wpAny_pure h⟩))) hfit)
    | exact wpAny_bind (wpAny_bind (m := Builtin.Tuple.tupleExact _) (wpAny_newObj_type (wpAny_pure (wpAny_pure ⟨_, rfl, wpAny_pure h⟩)) hfit))
    | exact wpAny_bind (wpAny_bind (m := Builtin.Tuple.tupleExact _) (wpAny_newObj_type (wpAny_pure ⟨_, rfl, wpAny_pure h⟩) hfit))
/-- xs[::-1], a list or a tuple -/
def tBack (Kf : PySem.W.Frag) (te : TE) : TE := fun σ H Q => te σ H fun x H1 => (∃ a xs, x = .ref a ∧ SqL Kf H1 a xs ∧ ∀ p, H1 p = none → Q (.ref p) (upd H1 p (.lst xs.reverse))) ∨ ∃ a xs, x = .ref a ∧ SqT Kf H1 a xs ∧ ∀ p, H1 p = none → Q (.ref p) (upd H1 p (.tup xs.reverse))
theorem pe_back {X : Cx} {e : Expr} {te : TE} {k : Nat} {p1 p2 p3 pos : Pos} (he : PE X e te) : PE X (.Subscript e (.Slice none none (some (.UnaryOp .USub (.Constant (.int 1) k p1) p2)) p3) pos) (tBack X.K te) := by
  refine ⟨fun pins s σ H Q I h => Subscript_ (thn (he.run pins s σ H _ I h) fun v s1 ⟨x, H1, I1, r1, q1⟩ => ?_)⟩
  have minus : PO X (some (.UnaryOp .USub (.Constant (.int 1) k p1) p2)) (tPart (tUn (rU fun i => .int (-i)) (tC (.int 1)))) := po_some (pe_un un_neg pe_int)
  refine wpAny_Slice (thn (po_none.run pins s1 σ H1 (fun o G => o = none ∧ G = H1) I1 ⟨rfl, rfl⟩) fun vl s2 ⟨o2, G2, I2, pl, eo2, eG2⟩ => ?_)
  subst eo2 eG2
  refine thn (po_none.run pins s2 σ G2 (fun o G => o = none ∧ G = G2) I2 ⟨rfl, rfl⟩) fun vu s3 ⟨o3, G3, I3, pu, eo3, eG3⟩ => ?_
  subst eo3 eG3
  refine thn (minus.run pins s3 σ G3 (fun o G => o = some (-1) ∧ G = G3) I3 ⟨1, rfl, -1, rfl, rfl, rfl⟩) fun vs s4 ⟨o4, G4, I4, ps, eo4, eG4⟩ => ?_
  subst eo4 eG4
  have I5 : Inv X pins σ G4 { s4 with heap := s4.heap.push { cls := .type "slice", data := .fields #[vl, vu, vs] } } := I4.kept (t' := s4.toks) fun b ob q => Heap.get?_push_of_some _ q
  have fresh := I5.hok.fresh (Nat.le_refl _)
  have none_ : ∀ {u : Value}, IsPart u none → u = .none := fun {u} p => by cases p; rfl
  rcases q1 with ⟨a, xs, rfl, hx, q⟩ | ⟨a, xs, rfl, hx, q⟩
  · cases (show v = Value.ref a from r1)
    obtain ⟨its, r, ht, hz⟩ := I5.list hx
    have hlen := r.length
    show wpAny (model X.prog X.w) X.A (subscriptTail e (.Slice none none (some (.UnaryOp .USub (.Constant (.int 1) k p1) p2)) p3) (.ref a) (.ref s4.heap.objs.size)) (EP X pins σ Q) X.xe _
    refine tail_any (ops := [.ref a, .ref s4.heap.objs.size]) ht.isList.typeIs (PySem.slot_list_getitem.lookup) ?_ (by with_unfolding_all rfl)
    refine wpAny_getItem_list_slice ht.isList (Heap.IsSliceOf.new _ vl vu vs) pl pu ps (by decide) ?_ (by rw [List.size_toArray]; omega)
    rw [PySem.W.krv_pick]
    exact ⟨.ref _, _, I5.laid (t' := s4.toks) (o := .lst xs.reverse) (fun b ob q => Heap.get?_push_of_some _ q) (Nat.le_refl _) ⟨by rw [List.length_reverse]; exact hz, _, 0, r.reverse, Heap.get?_push_size _ rfl⟩, rfl, q _ fresh⟩
  · cases (show v = Value.ref a from r1)
    obtain ⟨its, r, ht, hz⟩ := I5.tuple hx
    have hlen := r.length
    have el := none_ pl
    have eu := none_ pu
    subst el eu
    show wpAny (model X.prog X.w) X.A (subscriptTail e (.Slice none none (some (.UnaryOp .USub (.Constant (.int 1) k p1) p2)) p3) (.ref a) (.ref s4.heap.objs.size)) (EP X pins σ Q) X.xe _
    refine tail_any (ops := [.ref a, .ref s4.heap.objs.size]) ht.typeIs PyProof.Rows.slot_tuple_getitem.lookup ?_ (by with_unfolding_all rfl)
    refine getItem_tupBack ht (Heap.IsSliceOf.new _ .none .none vs) ps ?_ (by omega)
    exact ⟨.ref _, _, I5.laid (t' := s4.toks) (o := .tup xs.reverse) (fun b ob q => Heap.get?_push_of_some _ q) (Nat.le_refl _) ⟨by rw [List.length_reverse]; exact hz, _, r.reverse, ⟨_, Heap.get?_push_size _ rfl, rfl, 0, rfl⟩⟩, rfl, q _ fresh⟩
section
variable {X : Cx} {P : Pg} {cl : Cl} {W : WX} {a' b' : Expr} {a b : C} {pos pos2 p q : Pos}
theorem e_back {k : Nat} {p1 p2 p3 : Pos} (ha : PE X a' (tE X.K P cl W a)) : PE X (.Subscript a' (.Slice none none (some (.UnaryOp .USub (.Constant (.int 1) k p1) p2)) p3) pos) (tE X.K P cl W (.rev a)) := by
  refine peI (pe_back ha) fun σ H Q ⟨S0, LL, ρ, q, e, R, hw, hq, he⟩ => ⟨S0, LL, ρ, _, e, R, hw, fun d v H1 s1 r1 h1 => ?_, he⟩
  cases d <;> first | exact h1.elim | skip
  · obtain ⟨l, xs, rfl, sl, hl, r⟩ := r1.1.lst_
    exact .inl ⟨l, xs, rfl, SqL.of hl, fun p hp => hq _ _ _ (sq_ s1 (same_upd hp)) (Res.from s1 (new_lst r.rev hp (R.nmF s1 p hp))) h1⟩
  · obtain ⟨l, xs, rfl, hl, r⟩ := r1.1.tup_
    exact .inr ⟨l, xs, rfl, hl, fun p hp => hq _ _ _ (sq_ s1 (same_upd hp)) (res_of (new_tup r.rev hp) fun _ e => by cases e) h1⟩
theorem upto_rg : ∀ (n : Nat) (lo : Int), upto lo n = (List.range n).map fun i => PyData.int (lo + (i : Nat))
  | 0, lo => rfl
  | n + 1, lo => by
    rw [List.range_succ_eq_map, List.map_cons, List.map_map]
    show PyData.int lo :: upto (lo + 1) n = _
    rw [upto_rg n (lo + 1)]
    congr 1
    · simp
    · apply List.map_congr_left
      intro i _
      simp only [Function.comp]
      congr 1
      omega
theorem rg_rps {K : PySem.W.Frag} {S : Addr → Prop} {H : Hp} (i j : Int) : Rps K S H (upto i (j - i).toNat) (rgV i j) := by
  have e : ∀ l : List Nat, Rps K S H (l.map fun k => PyData.int (i + (k : Nat))) (l.map fun k => V.int (i + (k : Nat))) := fun l => by
    induction l with
    | nil => exact .nil
    | cons x l ih => exact .cons (by simp only [Rp]) ih
  rw [upto_rg]
  exact e _
/-- list(range(a, b)) -/
theorem e_lrng2 (hc : X.calm = true) (hg : Gl X "list") (hm : X.mg "list" = none) (hg2 : Gl X "range") (hm2 : X.mg "range" = none) (ha : PE X a' (tE X.K P cl W a)) (hb : PE X b' (tE X.K P cl W b)) (na : okE a' = true) (nb : okE b' = true) :
    PE X (.Call (.Name "list" p) [.Call (.Name "range" q) [a', b'] [] pos2] [] pos) (tE X.K P cl W (.bi .lrng2 [a, b])) := by
  refine peI (pe_listRg hc hg hm (prg_2 hg2 hm2 ha hb (okE_star na) (okE_star nb) (by rw [okE_star nb]; rfl)) rfl) fun σ H Q ⟨S0, LL, ρ, q, e, R, hw, hq, he⟩ => ?_
  refine ⟨S0, LL, ρ, _, e, R, hw, fun d1 v1 H1 s1 r1 h1 => ⟨S0, LL, ρ, _, e, R.same s1, h1, fun d2 v2 H2 s2 r2 h2 => ?_, fun k fs cv dx H' s2 x h => he k fs cv dx H' (sq_ s1 s2) x h⟩, he⟩
  have h2 : biR .lrng2 [d1, d2] q := h2
  cases d1 <;> cases d2 <;> first | exact h2.elim | skip
  obtain ⟨⟨h3, h4, h5, h6, h7⟩, h8⟩ := h2
  refine ⟨_, _, r1.1.int_, r2.1.int_, ⟨h3, h4, h5, h6, h7⟩, fun p hp => ?_⟩
  exact hq _ _ _ (sq_ (sq_ s1 s2) (same_upd hp)) (Res.from (sq_ s1 s2) (new_lst (rg_rps _ _) hp (R.nmF (sq_ s1 s2) p hp))) h8
end
end Uq

set_option maxHeartbeats 2000000
/-! Uq, part i4: sorted(set(tuples of ints)). -/
namespace Uq
open PySem PySem.Spec PyProof.Rows L2
theorem rows_of {K : PySem.W.Frag} {S : Addr → Prop} {H : Hp} : ∀ {rows : List (List Int)} {xs : List V}, Rps K S H (rows.map rowD) xs → ∃ ks : List (Addr × List Int), xs = ks.map (fun p => V.ref p.1) ∧ rows = ks.map (·.2) ∧ ∀ p ∈ ks, SqT K H p.1 (p.2.map V.int)
  | [], xs, h => by
    simp only [List.map_nil, Rps] at h
    subst h
    exact ⟨[], rfl, rfl, fun _ h => nomatch h⟩
  | r :: rows, xs, h => by
    simp only [List.map_cons, Rps] at h
    obtain ⟨v, t, rfl, h1, h2⟩ := h
    obtain ⟨ks, rfl, rfl, hk⟩ := rows_of h2
    obtain ⟨p, ys, rfl, hp, hr⟩ := h1.tup_
    rw [hr.ints_] at hp
    refine ⟨(p, r) :: ks, rfl, rfl, fun q hq => ?_⟩
    rcases List.mem_cons.mp hq with rfl | hq
    · exact hp
    · exact hk q hq
theorem rows_back {K : PySem.W.Frag} {S : Addr → Prop} {H : Hp} : ∀ {ks : List (Addr × List Int)}, (∀ p ∈ ks, SqT K H p.1 (p.2.map V.int)) → Rps K S H ((ks.map (·.2)).map rowD) (ks.map fun p => V.ref p.1)
  | [], _ => .nil
  | p :: ks, h => by
    refine .cons ?_ (rows_back fun q hq => h q (List.mem_cons_of_mem _ hq))
    unfold rowD
    simp only [Rp]
    exact ⟨p.1, _, rfl, h p List.mem_cons_self, Rps.ints _⟩
section
variable {X : Cx} {P : Pg} {cl : Cl} {W : WX} {a' : Expr} {a : C} {pos pos2 p q : Pos}
theorem sset_boot : bootBuiltins "set" = some (.type "set") := by decide +kernel
theorem sorted_boot : bootBuiltins "sorted" = some (.builtin "sorted") := by decide +kernel
end
end Uq

set_option maxHeartbeats 1000000
/-! Uq, part i5: defs with a star: the tuple is made as the call binds. -/
namespace Uq
open PySem PySem.Spec PyProof.Rows L2
/-- what binding comes to: the names' values, the state behind it -/
def BindsV (s : Shared) (fd : FuncData) (args : Args) (binds : List (Str × Value)) (s1 : Shared) : Prop :=
  ∀ (M : Model) (A : Around) (E : Value → Shared → Prop) (Q : List (Str × Value) → Shared → Prop), Q binds s1 → wpAny M A (bindArgs fd args) Q E s
def tupSt (s : Shared) (us : List Value) : Shared := { s with heap := s.heap.push { cls := .type "tuple", data := .seq us.toArray } }
def BndV (K : PySem.W.Frag) (fd : FuncData) (ps : List Str) : Prop := ∀ (s : Shared) (us : List Value), us.length ≤ 1000 → BindsV s fd ⟨us, []⟩ (ps.zip [.ref s.heap.objs.size]) (tupSt s us)
structure FnV (P : Program) (w : World) (K : PySem.W.Frag) (mg : Str → Option Value) (base : Heap) (CX : CXT) (k : Nat) (f : Addr) (fd : FuncData) (ps : List Str) (sp : Sp) : Prop where
  len : ∀ vs H Q E, sp vs H Q E → vs.length = ps.length
  run : ∀ (A : Around) (outer : List PySem.Env) (s s1 : Shared) (H : Hp) (args : Args) (us : List Value) (vs : List V) (Q : VK) (E : XK), Room k A → K.In s.heap → Env0 P w K mg base A outer s1 H → BindsV s fd args (ps.zip us) s1 → Vals vs us → sp vs H Q E →
    codeAny (model P w) A (.call (.ref f) args) (CR CX outer P w H s1 Q E) s
theorem fn_ofV {CX : CXT} {P : Program} {w : World} {K : PySem.W.Frag} {mg : Str → Option Value} {base : Heap} {k : Nat} {f : Addr} {name qual : Str} {params : Arguments} {body : List Stmt} {scope : Scope} {dV kV doc pm cdv ct oc : Value} {an od : Option Addr}
    {osl : Array (Option Value)} {N ps : List Str} {sp : Sp} (lk : K.lookup f = some ⟨oc, od, .func (PySem.W.fnOf name qual params body scope dV kV doc pm an cdv ct), osl⟩) (hcd : PySem.W.codeIn K cdv qual = true) (S : FnScope N ps scope)
    (len : ∀ vs H Q E, sp vs H Q E → vs.length = ps.length)
    (hbody : ∀ (A : Around) (outer : List PySem.Env) (s : Shared) (H : Hp) (vs : List V) (Q : VK) (E : XK), Room k (A.deeper (envOfC qual scope s.heap.objs.size f cdv)) → sp vs H Q E →
      ∃ t, PSs (cxOf CX P w K mg base N qual scope f cdv A outer s H E) body t ∧ t { nx := fun _ H' => Q .non H', rt := Q } (L2.start N vs) H) :
    FnV P w K mg base CX (k + 1) f (PySem.W.fnOf name qual params body scope dV kV doc pm an cdv ct) ps sp := by
  refine ⟨len, fun A outer s0 s H args us vs Q E hr KX e0 hb r hsp => ?_⟩
  have hl := len _ _ _ _ hsp
  have lim : s.heap.NoLimit := e0.mod.nolimit.keeps fun b o e => (e0.bs b o e).1
  have hkind : ∀ y ∈ ps.zip us, scope.names.lookup y.1 = some .local ∨ (scope.names.lookup y.1 = some .cell ∧ ((cellsFrom (s.heap.objs.size + 1) scope.names []).lookup y.1).isSome = true) := fun ⟨n, v⟩ hy => by
    rcases S.par n (List.of_mem_zip hy).1 with q | q
    · exact .inl q
    · exact .inr ⟨q, PySem.W.cellsFrom_some _ _ _ (.inl q)⟩
  refine codeAny_call_function hr.depth (KX _ _ lk) rfl S.co S.gen rfl (PySem.W.codeRec_of KX hcd) (hb _ _ _ _ ?_)
  refine wpAny_newFunctionEnv_cells S.kind hkind fun env he s1 x => ?_
  subst he
  refine ⟨lim.keeps x.toInCall.keep, codeAny_func ?_⟩
  obtain ⟨t, ht, hq⟩ := hbody A outer s H vs Q E (hr.deeper _) hsp
  have I : Inv (cxOf CX P w K mg base N qual scope f cdv A outer s H E) [] (L2.start N vs) H s1 := inv_start S hr.hd e0 hl r x
  refine wpAny_mono (ht.run [] s1 (L2.start N vs) H _ I hq) (fun fl s' hs => ?_) fun e s' hs => hs
  have fin : ∀ {σ' : L2.St} {H' : Hp} {v : V} {u : Value}, Inv (cxOf CX P w K mg base N qual scope f cdv A outer s H E) [] σ' H' s' → RelV v u → Q v H' → CE outer P w H s Q u s' :=
    fun {σ' H' v u} J rv q => ⟨v, H', J.os, J.bare, J.base, J.hok, rv, q⟩
  cases fl with
  | ret u =>
    obtain ⟨v, σ', H', J, rv, q⟩ := hs
    exact fin J rv q
  | next =>
    obtain ⟨σ', H', J, q⟩ := hs
    exact fin (v := V.non) (u := Value.none) J rfl q
  | brk =>
    obtain ⟨_, _, _, q⟩ := hs
    exact False.elim q
  | cont =>
    obtain ⟨_, _, _, q⟩ := hs
    exact False.elim q
theorem FunD.okV {P : Program} {w : World} {K : PySem.W.Frag} {mg : Str → Option Value} {base : Heap} {x qual : Str} {params : Arguments} {body : List Stmt} {scope : Scope} {dvs : List V} {kws : List (Str × V)} {f : Addr} {fd : FuncData}
    {CX : CXT} {N ps : List Str} {k : Nat} {sp : Sp} (F : FunD K x qual params body scope dvs kws f fd) (S : FnScope N ps scope) (len : ∀ vs H Q E, sp vs H Q E → vs.length = ps.length)
    (hbody : ∀ (cdv : Value) (A : Around) (outer : List PySem.Env) (s : Shared) (H : Hp) (vs : List V) (Q : VK) (E : XK), Room k (A.deeper (envOfC qual scope s.heap.objs.size f cdv)) → sp vs H Q E →
      ∃ t, PSs (cxOf CX P w K mg base N qual scope f cdv A outer s H E) body t ∧ t { nx := fun _ H' => Q .non H', rt := Q } (L2.start N vs) H) : FnV P w K mg base CX (k + 1) f fd ps sp := by
  obtain ⟨oc, od, dV, kV, doc, pm, an, cdv, ct, osl, rfl, lk, hcd, _, _⟩ := F.ex
  exact fn_ofV lk hcd S len fun A outer s H vs Q E hr hsp => hbody cdv A outer s H vs Q E hr hsp
/-- .. bound -/
theorem FunD.bndV {K : PySem.W.Frag} {x qual : Str} {params : Arguments} {body : List Stmt} {scope : Scope} {kws : List (Str × V)} {f : Addr} {fd : FuncData} {ps : List Str} (F : FunD K x qual params body scope [] kws f fd)
    (h : ∀ (kV doc pm : Value) (an : Option Addr) (cdv ct : Value) (us : List Value), bindArgs (PySem.W.fnOf x qual params body scope .none kV doc pm an cdv ct) ⟨us, []⟩ = (do let t ← newTuple us; pure (ps.zip [t]))) : BndV K fd ps := by
  obtain ⟨oc, od, dV, kV, doc, pm, an, cdv, ct, osl, rfl, lk, hcd, hD, hK⟩ := F.ex
  rcases hD with ⟨_, rfl⟩ | ⟨e, _⟩
  · intro s us hl M A E Q hq
    rw [h kV doc pm an cdv ct us]
    exact wpAny_bind (wpAny_newTuple (wpAny_pure hq) (by exact Nat.le_trans hl (by decide)))
  · exact absurd rfl e
section
variable {X : Cx} {P : Pg} {cl : Cl} {W : WX} {a' : Expr} {pos : Pos} {k : Nat} {fa : Addr} {fd : FuncData} {ps : List Str} {sp : Sp} {x : Str} {p : Pos} {f : Nat} {cs : List C} {es : List Expr}
theorem run_fnV {E : XK} {pins : List (Addr × Obj)} {σ : L2.St} {H : Hp} {s : Shared} {Q : VK} {us : List Value} {vs : List V} (F : FnV X.prog X.w X.K X.mg X.base (L2.CX X.prog X.w) k fa fd ps sp) (hr : Room k X.A) (hb : BndV X.K fd ps) (hx : PassesAt (L2.CX X.prog X.w) X σ E)
    (I : Inv X pins σ H s) (r : Vals vs us) (hl : vs.length ≤ 1000) (h : ∀ q, H q = none → sp [.ref q] (upd H q (.tup vs)) Q E) : wpAny (model X.prog X.w) X.A (call (.ref fa) us) (EP X pins σ Q) X.xe s := by
  have hf : H s.heap.objs.size = none := I.hok.fresh (Nat.le_refl _)
  have hz : vs.length ≤ sizeLine := Nat.le_trans hl (by decide)
  have I1 : Inv X pins σ (upd H s.heap.objs.size (.tup vs)) (tupSt s us) := I.laid (t' := s.toks) (fun b u e => Heap.get?_push_of_some _ e) (Nat.le_refl _) ⟨hz, us, r, ⟨_, Heap.get?_push_size _ rfl, rfl, _, rfl⟩⟩
  refine wpAny_call (codeAny_mono (F.run X.A X.stack s (tupSt s us) _ ⟨us, []⟩ [.ref s.heap.objs.size] [.ref s.heap.objs.size] Q E hr I.kIn I1.env0 (hb s us (by rw [← r.length]; exact hl)) (.cons rfl .nil) (h _ hf)) fun r s' hq => ?_)
  cases r with
  | error e => exact hx pins _ _ e s' I1 hq
  | ok fl =>
    cases fl with
    | ret u => exact I1.after hq
    | next => exact False.elim hq
    | brk => exact False.elim hq
    | cont => exact False.elim hq
theorem callv_sp {S0 : Addr → Prop} {LL : Ow} {ρ : Env} {σ : L2.St} {H H1 : Hp} {Q : VK} {q : QD} {e : Ex} {ds : List D} {vs : List V} (R : Rel X.K P S0 LL ρ σ H) (s1 : Same H H1) (r1 : Rps X.K (NmS S0 LL (nmsL cs)) H1 ds vs) (h1 : cl.call f [.tuple ds] q e)
    (hq : ∀ d v H', Same H H' → Res X.K (NmS S0 LL (nms (.callv f cs))) H H' (fresh (.callv f cs)) d v → q d → Q v H') (hE : ∀ k fs cv dx H', Same H H' → XRp X.K P H' k fs cv dx → e k fs → W cv dx σ H') :
    ∀ p, H1 p = none → spF X.K P 1 (cl.call f) [.ref p] (upd H1 p (.tup vs)) Q (WE W σ) := fun p hp =>
  ⟨[.tuple ds], NmS S0 LL (nmsL cs), q, e, .one (new_tup r1 hp), fun a ha => R.nmF s1 a (same_none (same_upd hp) ha), h1, rfl, fun d v H' s r hd => hq d v H' (sq_ (sq_ s1 (same_upd hp)) s) (.fls r) hd, fun k fs cv dx H' s x h => hE k fs cv dx H' (sq_ (sq_ s1 (same_upd hp)) s) x h⟩
theorem e_callv (F : FnV X.prog X.w X.K X.mg X.base (L2.CX X.prog X.w) k fa fd ps (spF X.K P ps.length (cl.call f))) (tk : Takes X W) (hr : Room k X.A) (hg : Gl X x) (hm : X.mg x = some (.ref fa)) (hk : PySem.W.keepIn X.K (.ref fa) = true) (hb : BndV X.K fd ps) (h1p : ps.length = 1)
    (hl : cs.length ≤ 1000) (ha : PA X (a' :: es) (tEsL X.K P cl W cs)) (hdb : (x == ("__debug__" : Str)) = false) (he : starEach (a' :: es) X.env = (false, eval a' X.env) :: starEach es X.env) (hpl : (backTo pos (starEach es X.env)).any (·.1) = false) :
    PE X (.Call (.Name x p) (a' :: es) [] pos) (tE X.K P cl W (.callv f cs)) := by
  refine ⟨fun pins s σ H Q I ⟨S0, LL, ρ, q, e, R, hw, hq, hE⟩ => ?_⟩
  refine wpAny_Call_Name_kw (ld_glob I hg hm ?_ hdb)
  refine PySem.W.callWith_K (h₀ := X.base) I.ok.mod.kin hk (thn (ha.run pos pins s σ H _ I ⟨S0, LL, ρ, _, e, R, hw, fun ds vs H1 s1 r1 l1 h1 => (show vs.length ≤ 1000 ∧ ∀ p, H1 p = none → spF X.K P ps.length (cl.call f) [.ref p] (upd H1 p (.tup vs)) Q (WE W σ) from ⟨by rw [← r1.length, l1]; exact hl, by rw [h1p]; exact callv_sp R s1 r1 h1 hq hE⟩), hE⟩) fun us s1 ⟨vs, H1, I1, r, q⟩ => ⟨I1.kIn, ?_⟩) he hpl
  exact run_fnV (E := WE W σ) F hr hb (passAt tk σ) I1 r q.1 q.2
theorem e_callv0 (F : FnV X.prog X.w X.K X.mg X.base (L2.CX X.prog X.w) k fa fd ps (spF X.K P ps.length (cl.call f))) (tk : Takes X W) (hr : Room k X.A) (hg : Gl X x) (hm : X.mg x = some (.ref fa)) (hk : PySem.W.keepIn X.K (.ref fa) = true) (hb : BndV X.K fd ps) (h1p : ps.length = 1)
    (hdb : (x == ("__debug__" : Str)) = false) : PE X (.Call (.Name x p) [] [] pos) (tE X.K P cl W (.callv f [])) := by
  refine ⟨fun pins s σ H Q I h => ?_⟩
  obtain ⟨S0, LL, ρ, q, e, R, hw, hq, hE⟩ := h
  refine wpAny_Call_Name_kw (ld_glob I hg hm ?_ hdb)
  refine PySem.W.callWith_K0 I.kIn hk ?_
  exact run_fnV (E := WE W σ) F hr hb (passAt tk σ) I (us := []) .nil (by simp) (by rw [h1p]; exact callv_sp (cs := []) R (Same.refl H) .nil hw hq hE)
end
end Uq

set_option maxHeartbeats 4000000
/-! Uq, part i6: sorted(set(t)), t a tuple of tuples of ints. -/
namespace Uq
open PySem PySem.Spec PySem.Calls PyProof.Rows L2
section
variable {P : Program} {w : World} {A : Around} {E : Value → Shared → Prop} {s : Shared}
/-- a new set -/
def newSetO (w : World) : Obj := { cls := .type "set", dict := none, data := .set #[] 0 (.fresh 0 0 (!w.params.followText "set-order")) }
def withSet (w : World) (s : Shared) : Shared := { s with heap := s.heap.push (newSetO w) }
theorem none_behind {h : Heap} {b : Addr} (hb : h.objs.size ≤ b) : h.get? b = none := by
  cases q : h.get? b with
  | none => rfl
  | some o => exact absurd (Heap.lt_size q) (Nat.not_lt.mpr hb)
theorem item_row {items : Array Value} {ks : List (Addr × List Int)} (hit : items.toList = ks.map fun p => Value.ref p.1) (i : Nat) (v : Value) (hv : items[i]? = some v) : ∃ p, ks[i]? = some p ∧ v = .ref p.1 := by
  rw [← Array.getElem?_toList, hit, List.getElem?_map] at hv
  cases hq : ks[i]? with
  | none => rw [hq] at hv; cases hv
  | some p => rw [hq] at hv; exact ⟨p, rfl, (Option.some.inj hv).symm⟩
def SetGot (P : Program) (w : World) (ks : List (Addr × List Int)) (s : Shared) (h' : Heap) : Prop :=
  ∃ L es ep t, SetTR P w h' s.heap.objs.size L es ep t ∧ Got ks ks.length L ∧ ∀ b o, s.heap.get? b = some o → h'.get? b = some o
theorem call_set_tupU {l : Addr} {items : Array Value} (ks : List (Addr × List Int)) {Q : Value → Shared → Prop} (hh : A.handled = none) (hl : s.heap.IsTuple l items) (hit : items.toList = ks.map fun p => Value.ref p.1)
    (hk : ∀ p ∈ ks, IsT P w s.heap p.2 p.1) (hfew : ks.length < 64) (hu : A.units + 3 < cLine) (h : ∀ (h' : Heap) (tk : Nat), SetGot P w ks s h' → Q (.ref s.heap.objs.size) { s with heap := h', toks := tk }) :
    wpAny (model P w) A (call (.type "set") [.ref l]) Q E s := by
  have hisz : items.size = ks.length := by rw [← Array.length_toList, hit, List.length_map]
  obtain ⟨c, tl, hmro⟩ := F.called_set.mro
  have hmade := F.called_set.made
  have hsub := F.called_set.sub
  refine wpAny_call (codeAny_of_tree ?_)
  show wpAny _ _ (callAny (.type "set") _) _ _ _
  refine wpAny_pure ⟨Code.quiet_builtin _ (by decide +kernel), codeAny_builtin F.entry_type_call ?_⟩
  rw [Around.under_plain (weight_type_call_type "set" [.ref l] []) rfl]
  have h1 := F.called_set.notType
  have h2 := F.called_set.canCreate
  have hct := F.typeCall_set_1 (.ref l)
  repeat (any_goals (first | assumption | wp_step))
  refine codeAny_mono (code_set_led1 (.ref l) (E := E) (Q₁ := fun obj s₁ => obj = .ref s.heap.objs.size ∧ s₁ = withSet w s) ⟨rfl, rfl⟩) fun r s₁ hr => ?_
  cases r with
  | error e => exact hr
  | ok fl =>
    cases fl with
    | ret obj =>
      obtain ⟨rfl, rfl⟩ := hr
      have hS : (s.heap.push (newSetO w)).get? s.heap.objs.size = some (newSetO w) := Heap.get?_push_size _ rfl
      have hT : Shared.TypeIs (withSet w s) (.ref s.heap.objs.size) "set" := ⟨_, hS, rfl⟩
      have hli := F.called_set.init.lookup
      have hbi := F.called_set.init.bind (.ref s.heap.objs.size)
      repeat (any_goals (first | assumption | wp_step))
      refine codeAny_mono (codeAny_call_builtin (R := wants (fun r s₂ => r = .none ∧ ∃ h' tk, s₂ = { s with heap := h', toks := tk } ∧ SetGot P w ks s h') E) F.called_set.init.plain F.entry_set_init (check_set_init_1 hT ?_)) fun r₂ s₂ hr₂ => ?_
      · obtain ⟨ol, hol, hcl, nl, hdl⟩ := hl
        obtain ⟨ocls, odict, odata, oslots⟩ := ol
        simp only at hcl hdl
        subst hcl; subst hdl
        have hol' : (s.heap.push (newSetO w)).get? l = some { cls := .type "tuple", dict := odict, data := .seq items nl, slots := oslots } := Heap.get?_push_of_some _ hol
        have hst := F.sub_tuple_set
        have hsf := F.sub_tuple_frozenset
        have hne : (Value.type "tuple" == Value.type "dict") = false := by decide
        have ht1 : (s.heap.push (newSetO w)).IsTuple l items := ⟨_, hol', rfl, nl, rfl⟩
        unfold withSet Builtin.«set.__init__» noKeywords Builtin.Frozenset.updateFrom
        generalize hPI : pyIter = PI
        wp_walk
        subst hPI
        refine wpAny_pyIter_tuple ht1 ?_
        refine wpAny_bind (wpAny_runValue ?_)
        have lS : l < s.heap.objs.size := Heap.lt_size hol
        have zI : (s.heap.push (newSetO w)).objs.size = s.heap.objs.size + 1 := Heap.size_push ..
        have neI : l ≠ (s.heap.push (newSetO w)).objs.size := by rw [zI]; exact Nat.ne_of_lt (Nat.lt_succ_of_lt lS)
        have notin : s.heap.objs.size ∉ [(s.heap.push (newSetO w)).objs.size, l] := by
          rw [zI, List.mem_cons, List.mem_singleton, not_or]
          exact ⟨Nat.ne_of_lt (Nat.lt_succ_self _), Nat.ne_of_gt lS⟩
        have hand : A.in1.in1.in1.handled = none := by simp [hh]
        refine set_update_tups ((Walks.tuple hand _ l neI items).toS) s.heap.objs.size notin ks hisz hfew (item_row hit) s.heap hk (none_behind (Nat.le_refl _)) (fun b hb => none_behind (by rw [List.mem_singleton.mp hb, zI]; omega)) hu (items.size - 0) 0 _ (by omega) (Nat.zero_le _)
          ⟨⟨_, Heap.get?_push_size _ rfl, rfl, rfl⟩, ht1.push _⟩ (fun b o e => Heap.get?_push_of_some _ (Heap.get?_push_of_some _ e)) ⟨[], #[], 0, _, setTR_fresh (Heap.get?_push_of_some _ hS), Got.zero ks⟩ fun s' L es ep t hm hS' g' hkp => ?_
        obtain ⟨h', g2, d', tk', os'⟩ := s'
        obtain rfl : g2 = s.gens := hm.gens
        obtain rfl : d' = s.drawn := hm.drawn
        obtain rfl : os' = s.os := hm.os
        show wpAny _ _ _ _ _ _
        refine wpAny_pure ?_
        show wpAny _ _ (ret Value.none) _ _ _
        rw [hisz] at g'
        exact wpAny_pure ⟨rfl, h', tk', rfl, L, es, ep, t, hS', g', hkp⟩
      · cases r₂ with
        | error e => exact hr₂
        | ok fl₂ =>
          cases fl₂ with
          | ret r =>
            obtain ⟨rfl, h', tk, rfl, hg⟩ := hr₂
            repeat (any_goals (first | assumption | wp_step))
            exact h _ _ hg
          | _ => exact hr₂.elim
    | _ => exact hr.elim
end
section
variable {X : Cx}
/-- set(t), t a tuple of tuples of ints -/
def rSetOfU (K : PySem.W.Frag) (P : Program) (w : World) : List V → Hp → VK → Prop := fun xs H Q => ∃ (l : Addr) (ks : List (Addr × List Int)), xs = [V.ref l] ∧ SqT K H l (ks.map fun p => V.ref p.1) ∧ (∀ p ∈ ks, SqT K H p.1 (p.2.map V.int)) ∧ ks.length < 64 ∧
  ∀ a L, H a = none → (∀ p ∈ L, p ∈ ks) → (∀ p ∈ ks, p.2 ∈ L.map (·.2)) → Q (.ref a) (upd H a (SetTO P w a L))
theorem cr_setOfU (hc : X.calm = true) (hu : X.A.units + 64 < cLine) : CallR X (.type "set") (rSetOfU X.K X.prog X.w) := by
  intro pins s σ H xs us Q I r h
  obtain ⟨l, ks, rfl, hl, hk, hf, q⟩ := h
  rw [Vals.ref1 r]
  obtain ⟨its, rv, pl, hz⟩ := I.tuple hl
  have hn : H s.heap.objs.size = none := I.hok.fresh (Nat.le_refl _)
  refine call_set_tupU (P := X.prog) (w := X.w) ks (I.ok.hd hc) pl (by simpa using refs_of_vals rv) (fun p hp => I.isT (hk p hp)) hf (by omega) fun h' tk ⟨L, es, ep, t, R, g, k⟩ => ?_
  refine ⟨.ref s.heap.objs.size, _, I.laid (t' := tk) k (Nat.le_refl _) (setTO_new R.t0), rfl, q _ L hn (fun p hp => List.mem_of_mem_take (g.sub p hp)) fun p hp => g.all p (by rw [List.take_length]; exact hp)⟩
end
section
variable {X : Cx} {P : Pg} {cl : Cl} {W : WX} {a' : Expr} {a : C} {pos pos2 p q : Pos}
/-- of a list or of a tuple -/
def rSetOfE (K : PySem.W.Frag) (P : Program) (w : World) : List V → Hp → VK → Prop := fun xs H Q => rSetOfT K P w xs H Q ∨ rSetOfU K P w xs H Q
theorem cr_setOfE (hc : X.calm = true) (hu : X.A.units + 64 < cLine) : CallR X (.type "set") (rSetOfE X.K X.prog X.w) := fun pins s σ H xs us Q I r h => by
  rcases h with h | h
  · exact cr_setOfT hc hu pins s σ H xs us Q I r h
  · exact cr_setOfU hc hu pins s σ H xs us Q I r h
end
end Uq

set_option maxHeartbeats 1000000
/-! Uq, part i7: max of a list of ints, with a default. -/
namespace Uq
open PySem PySem.Spec PyProof.Rows L2
theorem maxOf_top : ∀ (ys : List Int) (y : Int), W.maxOf y ys ∈ y :: ys ∧ ∀ z ∈ y :: ys, z ≤ W.maxOf y ys
  | [], y => ⟨List.mem_cons_self, fun z hz => by rw [List.mem_singleton.mp hz]; exact Int.le_refl _⟩
  | x :: ys, y => by
    have e : W.maxOf y (x :: ys) = W.maxOf (if y < x then x else y) ys := by
      show List.foldl _ _ _ = List.foldl _ _ _
      rw [List.foldl_cons]
      congr 1
      show (if decide (y < x) = true then x else y) = _
      simp
    obtain ⟨h1, h2⟩ := maxOf_top ys (if y < x then x else y)
    rw [e]
    have hd := h2 _ List.mem_cons_self
    generalize W.maxOf (if y < x then x else y) ys = M at *
    refine ⟨?_, fun z hz => ?_⟩
    · rcases List.mem_cons.mp h1 with q | q
      · rw [q]
        split
        · simp
        · simp
      · exact List.mem_cons_of_mem _ (List.mem_cons_of_mem _ q)
    · rcases List.mem_cons.mp hz with rfl | hz
      · split at hd <;> omega
      · rcases List.mem_cons.mp hz with rfl | hz
        · split at hd <;> omega
        · exact h2 z (List.mem_cons_of_mem _ hz)
section
variable {X : Cx} {P : Pg} {cl : Cl} {W : WX} {a' b' : Expr} {a b : C} {pos p kp : Pos}
def rMaxD (K : PySem.W.Frag) : List V → List V → Hp → VK → Prop := fun xs zs H Q => ∃ (l : Addr) (ns : List Int) (d : Int), xs = [.ref l] ∧ zs = [.int d] ∧ SqL K H l (ns.map V.int) ∧ (ns = [] → Q (.int d) H) ∧ ∀ m, m ∈ ns → (∀ y, y ∈ ns → y ≤ m) → Q (.int m) H
theorem crk_maxd (hc : X.calm = true) (hu : X.A.units + 70 < cLine) : CallRK X (.builtin "max") ["default"] (rMaxD X.K) := by
  intro pins s σ H xs zs us ws Q I r rz h
  obtain ⟨l, ns, d, rfl, rfl, hs, h0, h1⟩ := h
  obtain ⟨its, rv, hl, _⟩ := I.list hs
  obtain ⟨u, rfl, ru⟩ := vals1 r
  cases (show u = Value.ref l from ru)
  obtain ⟨w, rfl, rw'⟩ := vals1 rz
  obtain ⟨t, rfl⟩ := (show ∃ t, w = Value.int d t from rw')
  refine W.max_list_datum_default (α := Int) (xs := ns) (I.ok.hd hc) hl.isList ⟨[], PyProof.Rows.IntsAre.reads _ (by simpa using rv.ints)⟩ (by show X.A.units + 1 + 0 < cLine; omega) (fun e h' tk hk => ⟨.int d, H, I.kept hk, ⟨_, rfl⟩, h0 e⟩) fun y ys i v h' tk e _ ⟨as, hv⟩ hk => ?_
  cases hv with
  | int m t =>
    obtain ⟨g1, g2⟩ := maxOf_top ys y
    exact ⟨.int _, H, I.kept hk, ⟨_, rfl⟩, h1 _ (by rw [e]; exact g1) (by rw [e]; exact g2)⟩
variable {pos2 q : Pos}
theorem e_sset (hc : X.calm = true) (hu : X.A.units + 64 < cLine) (hg : Gl X "sorted") (hm : X.mg "sorted" = none) (hg2 : Gl X "set") (hm2 : X.mg "set" = none) (ha : PE X a' (tE X.K P cl W a)) (na : okE a' = true) :
    PE X (.Call (.Name "sorted" p) [.Call (.Name "set" q) [a'] [] pos2] [] pos) (tE X.K P cl W (.bi .sset [a])) := by
  have inner := pe_callTy (pos := pos2) (p := q) (cr_setOfE hc hu) hg2 hm2 sset_boot (pa_cons ha pa_nil (okE_star na)) (by decide) (by decide) (okE_star na) rfl
  refine peI (pe_callB (cr_sortedT hc) hg hm sorted_boot (pa_cons inner pa_nil rfl) (by decide) (by decide) rfl rfl) fun σ H Q ⟨S0, LL, ρ, qq, e, R, hw, hq, he⟩ => ?_
  refine ⟨S0, LL, ρ, _, e, R, hw, fun d v H1 s1 r1 h1 => ?_, he⟩
  have h1 : biR .sset [d] qq := h1
  have fin : ∀ (rows : List (List Int)) (k : Nat) (B : Int) (ks : List (Addr × List Int)), rows = ks.map (·.2) → (∀ p ∈ ks, SqT X.K H1 p.1 (p.2.map V.int)) → rows.length < 64 → 1 ≤ k → (∀ r ∈ rows, r.length = k ∧ TS.Bd B r) →
      (∀ out : List (List Int), out.Nodup → (∀ r, r ∈ out ↔ r ∈ rows) → out.Pairwise (fun q r => TS.code B q ≤ TS.code B r) → qq (.list (out.map rowD))) →
      ∀ s L, H1 s = none → (∀ p ∈ L, p ∈ ks) → (∀ p ∈ ks, p.2 ∈ L.map (·.2)) → rSortedT X.K X.prog X.w [V.ref s] (upd H1 s (SetTO X.prog X.w s L)) Q := by
    intro rows k B ks er hks hlen hk1 hall hout s L hs hsub hsup
    subst er
    have hlen2 : ks.length < 64 := by simpa using hlen
    have sm : Same H1 (upd H1 s (SetTO X.prog X.w s L)) := same_upd hs
    have hall2 : ∀ p ∈ ks, p.2.length = k ∧ TS.Bd B p.2 := fun p hp => hall p.2 (List.mem_map_of_mem hp)
    refine ⟨s, L, k, B, rfl, upd_same, fun p hp => Kp.sqT (S := fun _ => False) (.of_same sm) (hks p (hsub p hp)), hk1, fun p hp => hall2 p (hsub p hp), fun L' p2 hperm hnd hl64 hpw hp2 => ?_⟩
    have sm2 := sq_ sm (same_upd (o := HO.lst (L'.map fun q => V.ref q.1)) hp2)
    have inL : ∀ p ∈ L', p ∈ ks := fun p hp => hsub p (hperm.mem_iff.mp hp)
    have rr : Rps X.K (NmS S0 LL (nms (.bi .sset [a]))) (upd H1 s (SetTO X.prog X.w s L)) ((L'.map (·.2)).map rowD) (L'.map fun p => V.ref p.1) :=
      rows_back fun p hp => Kp.sqT (S := fun _ => False) (.of_same sm) (hks p (inL p hp))
    refine hq _ _ _ (sq_ s1 sm2) (Res.from (sq_ s1 sm) (new_lst rr hp2 (R.nmF (sq_ s1 sm) p2 hp2))) ?_
    refine hout (L'.map (·.2)) hnd (fun r => ⟨fun hr => ?_, fun hr => ?_⟩) ?_
    · obtain ⟨p, hp, rfl⟩ := List.mem_map.mp hr
      exact List.mem_map_of_mem (inL p hp)
    · obtain ⟨p, hp, rfl⟩ := List.mem_map.mp hr
      obtain ⟨p', hp', e'⟩ := List.mem_map.mp (hsup p hp)
      rw [← e']
      exact List.mem_map_of_mem (hperm.mem_iff.mpr hp')
    · rw [List.pairwise_map]
      exact hpw
  cases d <;> first | exact h1.elim | skip
  · obtain ⟨rows, k, B, rfl, hlen, hk1, hall, hout⟩ := h1
    obtain ⟨l, xs, rfl, sl, hl, r⟩ := r1.1.lst_
    obtain ⟨ks, rfl, er, hks⟩ := rows_of r
    exact .inl ⟨l, ks, rfl, SqL.of hl, hks, by rw [er, List.length_map] at hlen; exact hlen, fin rows k B ks er hks hlen hk1 hall hout⟩
  · obtain ⟨rows, k, B, rfl, hlen, hk1, hall, hout⟩ := h1
    obtain ⟨l, xs, rfl, hl, r⟩ := r1.1.tup_
    obtain ⟨ks, rfl, er, hks⟩ := rows_of r
    exact .inr ⟨l, ks, rfl, hl, hks, by rw [er, List.length_map] at hlen; exact hlen, fin rows k B ks er hks hlen hk1 hall hout⟩
theorem max_boot : bootBuiltins "max" = some (.builtin "max") := by decide +kernel
theorem e_maxd (hc : X.calm = true) (hu : X.A.units + 70 < cLine) (hg : Gl X "max") (hm : X.mg "max" = none) (ha : PE X a' (tE X.K P cl W a)) (na : okE a' = true) (hb : PE X b' (tE X.K P cl W b)) :
    PE X (.Call (.Name "max" p) [a'] [⟨some "default", b', kp⟩] pos) (tE X.K P cl W (.bi .maxd [a, b])) := by
  refine peI (pe_callBK (crk_maxd hc hu) hg hm max_boot (a_cons ha a_nil (okE_star na)) (k_cons hb k_nil) (by decide) (by decide) (by rw [okE_star na]; rfl) (by rw [okE_star na]; rfl) rfl rfl rfl) fun σ H Q ⟨S0, LL, ρ, q, e, R, hw, hq, he⟩ => ?_
  have hw : wE cl a ρ (fun v => wE cl b ρ (fun w => biR .maxd [v, w] q) e) e := hw
  refine ⟨S0, LL, ρ, fun ds => ∃ v, ds = [v] ∧ wE cl b ρ (fun w => biR .maxd [v, w] q) e, e, R, ?_, fun ds vs H1 s1 r1 l1 h1 => ?_, he⟩
  · show wE cl a ρ (fun v => ∃ v', [v] = [v'] ∧ wE cl b ρ (fun w => biR .maxd [v', w] q) e) e
    have e1 : (fun v : Uq.D => ∃ v', [v] = [v'] ∧ wE cl b ρ (fun w => biR .maxd [v', w] q) e) = fun v => wE cl b ρ (fun w => biR .maxd [v, w] q) e := by
      funext v
      exact propext ⟨fun ⟨v', z, h⟩ => by cases z; exact h, fun h => ⟨v, rfl, h⟩⟩
    rw [e1]
    exact hw
  · obtain ⟨v, rfl, hv⟩ := h1
    obtain ⟨x, rfl, rx⟩ := r1.one_
    refine ⟨S0, LL, ρ, fun ds => ∃ w, ds = [w] ∧ biR .maxd [v, w] q, e, R.same s1, ?_, fun ds ys H2 s2 r2 l2 h2 => ?_, fun k fs cv dx H' s x h => he k fs cv dx H' (sq_ s1 s) x h⟩
    · show wE cl b ρ (fun w => ∃ w', [w] = [w'] ∧ biR .maxd [v, w'] q) e
      have e1 : (fun w : Uq.D => ∃ w', [w] = [w'] ∧ biR .maxd [v, w'] q) = fun w => biR .maxd [v, w] q := by
        funext w
        exact propext ⟨fun ⟨w', z, h⟩ => by cases z; exact h, fun h => ⟨w, rfl, h⟩⟩
      rw [e1]
      exact hv
    · obtain ⟨w, rfl, hw2⟩ := h2
      obtain ⟨y, rfl, ry⟩ := r2.one_
      cases v <;> cases w <;> first | exact hw2.elim | skip
      rename_i ds d
      obtain ⟨ns, g1, g2, g3⟩ := hw2
      obtain ⟨l, xs, rfl, _, hl, rr⟩ := rx.lst_
      have ey := ry.int_
      subst ey
      rw [ints_eq g1] at rr
      rw [rr.ints_] at hl
      exact ⟨l, ns, d, rfl, rfl, SqL.of (s2 l _ hl), fun z => hq _ _ H2 (sq_ s1 s2) res_int (g2 z), fun m m1 m2 => hq _ _ H2 (sq_ s1 s2) res_int (g3 m m1 m2)⟩
end
end Uq

set_option maxHeartbeats 1000000
/-! Uq, part j: walks, targets, comprehensions. -/
namespace Uq
open PySem PySem.Spec PyProof.Rows L2
/-- what a walk shares -/
def fzNm (k : IK) (es : List C) : List Nat := match k with
  | .rng1 => []
  | .rng2 => []
  | .rng3 => []
  | _ => nmsL es
theorem frzIt_eq (k : IK) (es : List C) (ρ : Env) : frzIt k es ρ = frzL (fzNm k es) ρ := by cases k <;> rfl
theorem fz_sub {k : IK} {es : List C} : ∀ i ∈ fzNm k es, i ∈ nmsL es := fun i h => by
  cases k <;> first | exact h | exact absurd h (by simp [fzNm])
/-- J gives ds, one by one, as long as what S lets stays -/
def Wk (K : PySem.W.Frag) (S : Addr → Prop) (J : It) (H1 : Hp) (ds : List D) : Prop := ∀ S' : Addr → Prop, (∀ a o, H1 a = some o → S a → S' a) → ∀ H i, Kp S' H1 H →
  (∀ d, ds[i]? = some d → J.go i H ∧ ∀ x H', J.yld i H x H' → Same H H' ∧ Rp K S' H' d x) ∧ (ds.length ≤ i → J.stop i H)
def tI (K : PySem.W.Frag) (P : Pg) (cl : Cl) (W : WX) (k : IK) (es : List C) : TI := fun σ H R' => ∃ S0 LL ρ q e, Rel K P S0 LL ρ σ H ∧ wEs cl es ρ (fun vs => itR k vs q) e ∧
  (∀ ds J H', Same H H' → Wk K (NmS S0 LL (fzNm k es)) J H' ds → q ds → R' J H') ∧ (∀ k fs cv dx H', Same H H' → XRp K P H' k fs cv dx → e k fs → W cv dx σ H')
section
variable {K : PySem.W.Frag} {S : Addr → Prop} {H : Hp}
theorem wk_list {a : Addr} {xs : List V} {ds : List D} (sa : S a) (ha : H a = some (.lst xs)) (r : Rps K S H ds xs) : Wk K S (Itl K a) H ds := fun S' hS H2 i kp => by
  have sa := hS a _ ha sa
  have r := r.wide hS
  have h2 := kp a _ ha (.inl sa)
  have r2 := Rps.mono (fun _ _ _ h => h) kp _ _ r
  refine ⟨fun d e => ?_, fun h => ⟨xs, SqL.of h2, by rw [← r.length]; exact h⟩⟩
  obtain ⟨x, ex, rx⟩ := r2.get e
  refine ⟨⟨xs, x, SqL.of h2, ex⟩, fun y H' hy => ?_⟩
  obtain ⟨rfl, hy⟩ := hy
  have e3 := hy xs (SqL.of h2)
  rw [ex] at e3; cases e3
  exact ⟨Same.refl _, rx⟩
theorem wk_lk {a : Addr} {ns : List Int} (ha : LkL K H a (ns.map V.int)) : Wk K S (Itl K a) H (ns.map PyData.int) := fun S' hS H2 i kp => by
  have h2 := (kp.lkL ha).sq
  refine ⟨fun d e => ?_, fun h => ⟨_, h2, by rw [List.length_map] at h ⊢; exact h⟩⟩
  obtain ⟨x, ex, rx⟩ := (Rps.ints (K := K) (S := S') (H := H2) ns).get e
  refine ⟨⟨_, x, h2, ex⟩, fun y H' hy => ?_⟩
  obtain ⟨rfl, hy⟩ := hy
  have e3 := hy _ h2
  rw [ex] at e3; cases e3
  exact ⟨Same.refl _, rx⟩
theorem wk_tup {a : Addr} {xs : List V} {ds : List D} (ha : SqT K H a xs) (r : Rps K S H ds xs) : Wk K S (Itt K a) H ds := fun S' hS H2 i kp => by
  have r := r.wide hS
  have h2 := kp.sqT ha
  have r2 := Rps.mono (fun _ _ _ h => h) kp _ _ r
  refine ⟨fun d e => ?_, fun h => ⟨xs, h2, by rw [← r.length]; exact h⟩⟩
  obtain ⟨x, ex, rx⟩ := r2.get e
  refine ⟨⟨xs, x, h2, ex⟩, fun y H' hy => ?_⟩
  obtain ⟨rfl, hy⟩ := hy
  have e3 := hy xs h2
  rw [ex] at e3; cases e3
  exact ⟨Same.refl _, rx⟩
theorem upto_get : ∀ (n : Nat) (lo : Int) (i : Nat), (upto lo n)[i]? = if i < n then some (.int (lo + i)) else none
  | 0, lo, i => by simp [upto]
  | n + 1, lo, 0 => by simp [upto]
  | n + 1, lo, i + 1 => by
    show (upto (lo + 1) n)[i]? = _
    rw [upto_get n (lo + 1) i]
    have e : lo + 1 + (i : Int) = lo + ((i + 1 : Nat) : Int) := by omega
    rw [e]
    by_cases h : i < n <;> simp [h]
theorem upto_length : ∀ (n : Nat) (lo : Int), (upto lo n).length = n
  | 0, _ => rfl
  | n + 1, lo => by show (upto (lo + 1) n).length + 1 = n + 1; rw [upto_length n]
theorem wk_rng {lo : Int} {n : Nat} : Wk K S (Itr lo n) H (upto lo n) := fun S' hS H2 i kp => by
  rw [upto_length]
  refine ⟨fun d e => ?_, fun h => h⟩
  rw [upto_get] at e
  by_cases h : i < n
  · rw [if_pos h] at e; cases e
    refine ⟨h, fun x H' hy => ?_⟩
    obtain ⟨rfl, rfl⟩ := hy
    exact ⟨Same.refl _, by simp only [Rp]⟩
  · rw [if_neg h] at e; cases e
theorem enumF_get : ∀ (ds : List D) (lo : Int) (i : Nat), (enumF lo ds)[i]? = (ds[i]?).map fun d => .tuple [.int (lo + i), d]
  | [], lo, i => by simp [enumF]
  | d :: ds, lo, 0 => by simp [enumF]
  | d :: ds, lo, i + 1 => by
    show (enumF (lo + 1) ds)[i]? = _
    rw [enumF_get ds (lo + 1) i]
    have e : lo + 1 + (i : Int) = lo + ((i + 1 : Nat) : Int) := by omega
    rw [e]
    rfl
theorem enumF_length : ∀ (ds : List D) (lo : Int), (enumF lo ds).length = ds.length
  | [], _ => rfl
  | d :: ds, lo => by show (enumF (lo + 1) ds).length + 1 = ds.length + 1; rw [enumF_length ds]
theorem wk_enum {a : Addr} {xs : List V} {ds : List D} (sa : S a) (ha : H a = some (.lst xs)) (r : Rps K S H ds xs) : Wk K S (Ite K a) H (enumF 0 ds) := fun S' hS H2 i kp => by
  have sa := hS a _ ha sa
  have r := r.wide hS
  have h2 := kp a _ ha (.inl sa)
  have r2 := Rps.mono (fun _ _ _ h => h) kp _ _ r
  refine ⟨fun d e => ?_, fun h => ⟨xs, SqL.of h2, by rw [← r.length, ← enumF_length ds 0]; exact h⟩⟩
  rw [enumF_get] at e
  cases q : ds[i]? with
  | none => rw [q] at e; cases e
  | some d0 =>
    rw [q] at e
    have e : PyData.tuple [.int (0 + (i : Int)), d0] = d := Option.some.inj e
    subst e
    obtain ⟨x, ex, rx⟩ := r2.get q
    refine ⟨⟨xs, x, SqL.of h2, ex⟩, fun y H' hy => ?_⟩
    obtain ⟨T, x', rfl, hT, rfl, hy⟩ := hy
    have e3 := hy xs (SqL.of h2)
    rw [ex] at e3; cases e3
    refine ⟨same_upd hT, new_tup (.cons ?_ (.one rx)) hT⟩
    simp only [Rp, Int.zero_add]
theorem wk_enumT {a : Addr} {xs : List V} {ds : List D} (ha : SqT K H a xs) (r : Rps K S H ds xs) : Wk K S (ItE K a) H (enumF 0 ds) := fun S' hS H2 i kp => by
  have r := r.wide hS
  have h2 := kp.sqT ha
  have r2 := Rps.mono (fun _ _ _ h => h) kp _ _ r
  refine ⟨fun d e => ?_, fun h => ⟨xs, h2, by rw [← r.length, ← enumF_length ds 0]; exact h⟩⟩
  rw [enumF_get] at e
  cases q : ds[i]? with
  | none => rw [q] at e; cases e
  | some d0 =>
    rw [q] at e
    have e : PyData.tuple [.int (0 + (i : Int)), d0] = d := Option.some.inj e
    subst e
    obtain ⟨x, ex, rx⟩ := r2.get q
    refine ⟨⟨xs, x, h2, ex⟩, fun y H' hy => ?_⟩
    obtain ⟨T, x', rfl, hT, rfl, hy⟩ := hy
    have e3 := hy xs h2
    rw [ex] at e3; cases e3
    refine ⟨same_upd hT, new_tup (.cons ?_ (.one rx)) hT⟩
    simp only [Rp, Int.zero_add]
end
section
variable {X : Cx} {P : Pg} {cl : Cl} {W : WX} {a' b' tg : Expr} {a b c : C} {pos p : Pos} {x : Str} {cs : List C} {es : List Expr}
theorem piI {it : Expr} {t t' : TI} (h : PI X tg it t) (i : ∀ σ H Q, t' σ H Q → t σ H Q) : PI X tg it t' := ⟨fun pins s σ H Q I q => h.run pins s σ H Q I (i σ H Q q)⟩
def iVal (K : PySem.W.Frag) (te : TE) : TI := fun σ H R => te σ H fun x H1 => (∃ a, x = .ref a ∧ (∃ xs, SqL K H1 a xs) ∧ R (Itl K a) H1) ∨ (∃ a, x = .ref a ∧ (∃ xs, SqT K H1 a xs) ∧ R (Itt K a) H1)
theorem pi_val {te : TE} (hl : PE X a' te) : PI X tg a' (iVal X.K te) := by
  refine ⟨fun pins s σ H R I h => ?_⟩
  refine thn (hl.run pins s σ H _ I h) fun v s1 ⟨x, H1, I1, r1, q1⟩ => ?_
  rcases q1 with ⟨a, e, ⟨xs, hq⟩, q⟩ | ⟨a, e, ⟨xs, hq⟩, q⟩
  · subst e
    cases r1
    obtain ⟨its, rv, p, hz⟩ := I1.list hq
    refine wpAny_pyIter_list p.isList ?_
    refine ⟨s1.heap.objs.size, [s1.heap.objs.size], _, _, H1, rfl, I1.kept (t' := s1.toks) fun b o e => Heap.get?_push_of_some _ e, turn_list a _, ⟨_, Heap.get?_push_size _ rfl, rfl, rfl⟩, fun b hb => ?_, q⟩
    have e : b = s1.heap.objs.size := by simpa using hb
    subst e
    exact I1.fpOk (Nat.le_refl _) (I1.hok.fresh (Nat.le_refl _))
  · subst e
    cases r1
    obtain ⟨its, rv, p, hz⟩ := I1.tuple hq
    refine wpAny_pyIter_tuple (show s1.heap.IsTuple a its.toArray from p) ?_
    refine ⟨s1.heap.objs.size, [s1.heap.objs.size], _, _, H1, rfl, I1.kept (t' := s1.toks) fun b o e => Heap.get?_push_of_some _ e, turn_tuple a _, ⟨_, Heap.get?_push_size _ rfl, rfl, rfl⟩, fun b hb => ?_, q⟩
    have e : b = s1.heap.objs.size := by simpa using hb
    subst e
    exact I1.fpOk (Nat.le_refl _) (I1.hok.fresh (Nat.le_refl _))
theorem i_val (ha : PE X a' (tE X.K P cl W a)) : PI X tg a' (tI X.K P cl W .val [a]) := by
  refine piI (pi_val ha) fun σ H R' ⟨S0, LL, ρ, q, e, R, hw, hq, he⟩ => ⟨S0, LL, ρ, _, e, R, hw, fun d v H1 s1 r1 h1 => ?_, he⟩
  have h1 : itR .val [d] q := h1
  have r1 : Rp X.K (NmS S0 LL (fzNm .val [a])) H1 d v := r1.1.wide fun _ _ _ z => z.sub fun i h => by show i ∈ nms a ++ []; simpa using h
  cases d <;> first | exact h1.elim | skip
  · obtain ⟨l, xs, rfl, sl, hl, r⟩ := r1.lst_
    exact .inl ⟨l, rfl, ⟨xs, SqL.of hl⟩, hq _ _ H1 s1 (wk_list sl hl r) h1⟩
  · obtain ⟨l, xs, rfl, hl, r⟩ := r1.tup_
    exact .inr ⟨l, rfl, ⟨xs, hl⟩, hq _ _ H1 s1 (wk_tup hl r) h1⟩
  · obtain ⟨l, ns, rfl, hl, ek⟩ := r1.dic_
    have h1 : q (_ : List D) := h1
    have e2 : (ns.map fun n => ((PyData.none, PyData.int n) : D × D)).map (·.2) = ns.map PyData.int := by rw [List.map_map]; rfl
    rw [ek, e2] at h1
    exact .inl ⟨l, rfl, ⟨_, hl.sq⟩, hq _ _ H1 s1 (wk_lk hl) h1⟩
theorem i_rng1 (hg : Gl X "range") (hm : X.mg "range" = none) (ha : PA X [a'] (tEsL X.K P cl W [a])) (hs : starEach [a'] X.env = [(false, eval a' X.env)]) : PI X tg (.Call (.Name "range" p) [a'] [] pos) (tI X.K P cl W .rng1 [a]) := by
  refine piI (pi_range1 hg hm ha hs) fun σ H R' ⟨S0, LL, ρ, q, e, R, hw, hq, he⟩ => ⟨S0, LL, ρ, _, e, R, hw, fun dd vs H1 s1 r1 l1 h1 => ?_, he⟩
  cases dd with
  | nil => cases l1
  | cons d dd =>
    cases dd with
    | cons _ _ => cases l1
    | nil =>
      obtain ⟨v, rfl, rv⟩ := r1.one_
      have h1 : itR .rng1 [d] q := h1
      cases d <;> first | exact h1.elim | skip
      have e := rv.int_; subst e
      exact ⟨_, rfl, h1.1.1, h1.1.2, hq _ _ H1 s1 wk_rng h1.2⟩
theorem i_rng2 (hg : Gl X "range") (hm : X.mg "range" = none) (ha : PA X [a', b'] (tEsL X.K P cl W [a, b])) (hs : starEach [a', b'] X.env = [(false, eval a' X.env), (false, eval b' X.env)]) (hs2 : starEach [b'] X.env = [(false, eval b' X.env)]) :
    PI X tg (.Call (.Name "range" p) [a', b'] [] pos) (tI X.K P cl W .rng2 [a, b]) := by
  refine piI (pi_range2 hg hm ha hs hs2) fun σ H R' ⟨S0, LL, ρ, q, e, R, hw, hq, he⟩ => ⟨S0, LL, ρ, _, e, R, hw, fun dd vs H1 s1 r1 l1 h1 => ?_, he⟩
  match dd, l1, r1, h1 with
  | [d, d'], _, r1, h1 =>
    obtain ⟨v, w, rfl, rv, rw⟩ := r1.two_
    have h1 : itR .rng2 [d, d'] q := h1
    cases d <;> cases d' <;> first | exact h1.elim | skip
    have e := rv.int_; subst e
    have e := rw.int_; subst e
    exact ⟨_, _, rfl, h1.1, hq _ _ H1 s1 wk_rng h1.2⟩
theorem i_enum {elts : List Expr} {kk : Nat} {tpos : Pos} (hg : Gl X "enumerate") (hm : X.mg "enumerate" = none) (ha : PA X [a'] (tEsL X.K P cl W [a])) (hs : starEach [a'] X.env = [(false, eval a' X.env)]) :
    PI X (.Tuple elts kk tpos) (.Call (.Name "enumerate" p) [a'] [] pos) (tI X.K P cl W .enum [a]) := by
  refine piI (pi_en hg hm ha hs) fun σ H R' ⟨S0, LL, ρ, q, e, R, hw, hq, he⟩ => ⟨S0, LL, ρ, _, e, R, hw, fun dd vs H1 s1 r1 l1 h1 => ?_, he⟩
  match dd, l1, r1, h1 with
  | [d], _, r1, h1 =>
    obtain ⟨v, rfl, rv⟩ := r1.one_
    have h1 : itR .enum [d] q := h1
    cases d <;> first | exact h1.elim | skip
    · obtain ⟨l, xs, rfl, sl, hl, r⟩ := rv.lst_
      exact .inl ⟨l, xs, rfl, SqL.of hl, hq _ _ H1 s1 (wk_enum sl hl r) h1⟩
    · obtain ⟨l, xs, rfl, hl, r⟩ := rv.tup_
      exact .inr ⟨l, xs, rfl, hl, hq _ _ H1 s1 (wk_enumT hl r) h1⟩

/-! ### targets -/
def gTs : List Nat → TGs
  | [] => gNil
  | i :: is => gCons (gName i) (gTs is)
def gTg (K : PySem.W.Frag) : Tg → TG
  | .nm i => gName i
  | .tp is => gTup K is.length (gTs is)
/-- where names are stored: osc the written scope -/
structure At (X : Cx) (osc : Scope) : Prop where
  st : ∀ x, isSt osc x = true → Loc X.env.scope x ∧ (X.fn x = true ∨ X.env.scope.names.lookup x = some .local)
theorem pg_nm {cf : Cf} {osc : Scope} {i : Nat} {e : Expr} (hN : X.N.Nodup) (eN : X.N = cf.N) (A : At X osc) (h : chkNm cf osc i e = true) : PG X e (gName i) := by
  unfold chkNm at h
  split at h
  · simp only [Bool.and_eq_true, decide_eq_true_eq] at h
    obtain ⟨l, f⟩ := A.st _ h.2
    exact pg_name hN (by rw [eN]; exact h.1) l f
  · cases h
theorem nm_star {cf : Cf} {osc : Scope} {i : Nat} {e : Expr} {es : List Expr} {env : PySem.Env} (h : chkNm cf osc i e = true) : assignEach (e :: es) env = (false, assign e env) :: assignEach es env := by
  unfold chkNm at h
  split at h
  · rfl
  · cases h
theorem pgs_nms {cf : Cf} {osc : Scope} (hN : X.N.Nodup) (eN : X.N = cf.N) (A : At X osc) : ∀ (is : List Nat) (es : List Expr), chkNms cf osc is es = true → PGs X es (gTs is) ∧ (assignEach es X.env).length = is.length ∧ (assignEach es X.env).findIdx? (·.1) = none
  | [], [], _ => ⟨pgs_nil, rfl, rfl⟩
  | i :: is, e :: es, h => by
    simp only [chkNms, Bool.and_eq_true] at h
    obtain ⟨h1, h2, h3⟩ := pgs_nms hN eN A is es h.2
    have q := nm_star (es := es) (env := X.env) h.1
    refine ⟨pgs_cons (pg_nm hN eN A h.1) h1 (by rw [q]; rfl), by rw [q, List.length_cons, h2]; rfl, ?_⟩
    rw [q, List.findIdx?_cons, h3]
    rfl
  | [], _ :: _, h => by cases h
  | _ :: _, [], h => by cases h
theorem pg_tg {cf : Cf} {osc : Scope} {t : Tg} {e : Expr} (hc : X.calm = true) (hN : X.N.Nodup) (eN : X.N = cf.N) (A : At X osc) (h : chkTg cf osc t e = true) : PG X e (gTg X.K t) := by
  unfold chkTg at h
  split at h
  · exact pg_nm hN eN A h
  · simp only [Bool.and_eq_true] at h
    obtain ⟨h1, h2, h3⟩ := pgs_nms hN eN A _ _ h.1.1
    exact pg_tup hc h1 h2 h3
  · cases h
end
section
variable {K : PySem.W.Frag} {P : Pg} {S0 : Addr → Prop} {H : Hp}
/-- behind a store: the slots is are set -/
structure Stored (K : PySem.W.Frag) (P : Pg) (S0 : Addr → Prop) (is : List Nat) (LL : Ow) (σ : L2.St) (H : Hp) (LL' : Ow) (ρ' : Env) (σ' : L2.St) : Prop where
  rel : Rel K P S0 LL' ρ' σ' H
  fm : Fm LL H LL' H
  ss : ∀ a, SS S0 LL a → SS S0 LL' a
  ln : σ'.length = σ.length
  out : ∀ j, j ∉ is → σ'[j]? = σ[j]?
  keep : ∀ j, j ∉ is → LL' j = LL j
theorem set_read {i : Nat} {d : D} {x : V} {LL : Ow} {ρ : Env} {σ : L2.St} (R : Rel K P S0 LL ρ σ H) (hr : Rp K (SS S0 LL) H d x) : Stored K P S0 [i] LL σ H (Lset LL i []) (ρ.set i (.va d)) (σ.set i (some x)) :=
  ⟨R.setVa i hr, Fm.less, fun _ h => h.less, by simp, fun j hj => by rw [List.getElem?_set_ne]; intro e; exact hj (by simp [e]), fun j hj => Lset_ne (by simpa using hj)⟩
theorem sets_read {Qs : L2.St → Hp → Prop} : ∀ {is : List Nat} {ds : List D} {xs : List V} {LL : Ow} {ρ ρ' : Env} {σ : L2.St}, Rel K P S0 LL ρ σ H → Rps K (SS S0 LL) H ds xs → setL is ds ρ = some ρ' →
    (∀ LL' σ', Stored K P S0 is LL σ H LL' ρ' σ' → Qs σ' H) → gTs is xs σ H Qs
  | [], [], xs, LL, ρ, ρ', σ, R, hr, e, hq => by
    simp only [Rps] at hr
    subst hr
    cases e
    exact ⟨rfl, hq LL σ ⟨R, Fm.refl, fun _ h => h, rfl, fun _ _ => rfl, fun _ _ => rfl⟩⟩
  | i :: is, d :: ds, xs, LL, ρ, ρ', σ, R, hr, e, hq => by
    simp only [Rps] at hr
    obtain ⟨x, r, rfl, h1, h2⟩ := hr
    have S1 := set_read (i := i) R h1
    refine ⟨x, r, rfl, sets_read (is := is) S1.rel (h2.wide fun a _ _ h => S1.ss a h) e fun LL' σ' S2 => hq LL' σ' ⟨S2.rel, S1.fm.trans S2.fm, fun a h => S2.ss a (S1.ss a h), S2.ln.trans S1.ln, fun j hj => ?_, fun j hj => ?_⟩⟩
    · simp only [List.mem_cons, not_or] at hj
      rw [S2.out j hj.2, S1.out j (by simp [hj.1])]
    · simp only [List.mem_cons, not_or] at hj
      rw [S2.keep j hj.2, S1.keep j (by simp [hj.1])]
  | [], _ :: _, xs, LL, ρ, ρ', σ, R, hr, e, hq => by cases e
  | _ :: _, [], xs, LL, ρ, ρ', σ, R, hr, e, hq => by cases e
theorem setL_len : ∀ {is : List Nat} {ds : List D} {ρ ρ' : Env}, setL is ds ρ = some ρ' → is.length = ds.length
  | [], [], _, _, _ => rfl
  | _ :: is, _ :: ds, _, _, e => by simp [setL_len (is := is) e]
  | [], _ :: _, _, _, e => by cases e
  | _ :: _, [], _, _, e => by cases e
theorem tg_read {t : Tg} {d : D} {x : V} {LL : Ow} {ρ : Env} {σ : L2.St} {Q : Env → Prop} {Qs : L2.St → Hp → Prop} (R : Rel K P S0 LL ρ σ H) (hr : Rp K (SS S0 LL) H d x) (h : tgR t d ρ Q)
    (hq : ∀ LL' ρ' σ', Stored K P S0 (tgI t) LL σ H LL' ρ' σ' → Q ρ' → Qs σ' H) : gTg K t x σ H Qs := by
  cases t with
  | nm i => exact hq _ _ _ (set_read R hr) h
  | tp is =>
    cases d <;> first | exact h.elim | skip
    rename_i ds
    obtain ⟨a, xs, rfl, ha, r⟩ := hr.tup_
    have h : (match setL is ds ρ with
      | some ρ' => Q ρ'
      | none => False) := h
    cases e : setL is ds ρ with
    | none => rw [e] at h; exact h.elim
    | some ρ' =>
      rw [e] at h
      exact ⟨a, xs, rfl, ha, by rw [← r.length, setL_len e], sets_read R r e fun LL' σ' S => hq LL' ρ' σ' S h⟩
end
end Uq

set_option maxHeartbeats 1000000
/-! Uq, part k: comprehensions. -/
namespace Uq
open PySem PySem.Spec PyProof.Rows L2
abbrev W0 : WX := fun _ _ _ _ => False
def tTs (K : PySem.W.Frag) (P : Pg) (cl : Cl) (cd : List C) : TT := fun σ H Q => ∃ S0 LL ρ q, Rel K P S0 LL ρ σ H ∧ wTs cl cd ρ q ∧ (∀ b H', Same H H' → q b → Q b H')
section
variable {X : Cx} {P : Pg} {cl : Cl} {W : WX} {e' : Expr}
theorem ptsI {es : List Expr} {t t' : TT} (h : PTs X es t) (i : ∀ σ H Q, t' σ H Q → t σ H Q) : PTs X es t' := ⟨fun pins s σ H Q I q => h.run pins s σ H Q I (i σ H Q q)⟩
theorem ts_nil : PTs X [] (tTs X.K P cl []) := ptsI pts_nil fun σ H Q ⟨S0, LL, ρ, q, R, hw, hq⟩ => hq true H (Same.refl H) hw
theorem ts_one {c : C} (h : PT X e' (tT X.K P cl W0 c)) : PTs X [e'] (tTs X.K P cl [c]) := ptsI (pts_one h) fun σ H Q ⟨S0, LL, ρ, q, R, hw, hq⟩ => by
  refine ⟨S0, LL, ρ, _, _, R, hw, fun d H' s h => truR_mono h fun b hb => ?_, fun k fs cv dx H' s x h => h.elim⟩
  cases b with
  | true => exact hq true H' s hb
  | false => exact hq false H' s hb
end
section
variable {K : PySem.W.Frag} {P : Pg} {S0 : Addr → Prop} {H H1 : Hp}
/-- the same, but for one new address -/
theorem Rel.but {LL : Ow} {ρ : Env} {σ : L2.St} {D : Addr} (R : Rel K P S0 LL ρ σ H1) (hD : H1 D = none) (s : Same H1 H) (hs : ∃ o, H D = some o) : Rel K P (fun a => S0 a ∧ a ≠ D) LL ρ σ H where
  ln := R.ln
  slot := fun i t e => (R.slot i t e).mono (fun a o ea h => ⟨⟨h.1, ne_of_none ea hD⟩, h.2⟩) (.of_same s) fun a ha => by
    obtain ⟨_, xs, e⟩ := R.own i a ha
    rw [e, s a _ e]
  dj := R.dj
  own := fun i a h => by
    obtain ⟨h0, xs, e⟩ := R.own i a h
    exact ⟨⟨h0, ne_of_none e hD⟩, xs, s a _ e⟩
  fr := fun a h => ⟨R.fr a (same_none s h), fun z => by
    obtain ⟨o, ho⟩ := hs
    rw [z, ho] at h; cases h⟩
theorem wipe_set {σ : L2.St} {i : Nat} {v : Option V} : ∀ {vs : List Nat}, i ∈ vs → wipe (σ.set i v) vs = wipe σ vs
  | j :: vs, h => by
    by_cases hm : i ∈ vs
    · show (wipe (σ.set i v) vs).set j none = (wipe σ vs).set j none
      rw [wipe_set hm]
    · have e : i = j := (List.mem_cons.mp h).resolve_right hm
      subst e
      have key : ∀ (us : List Nat), i ∉ us → wipe (σ.set i v) us = (wipe σ us).set i v := fun us => by
        induction us with
        | nil => intro _; rfl
        | cons u us ih =>
          intro hn
          simp only [List.mem_cons, not_or] at hn
          show (wipe (σ.set i v) us).set u none = ((wipe σ us).set u none).set i v
          rw [ih hn.2, List.set_comm _ _ hn.1]
      show (wipe (σ.set i v) vs).set i none = (wipe σ vs).set i none
      rw [key vs hm, List.set_set]
theorem wipe_eq {σ σ' : L2.St} {vs : List Nat} (hl : σ'.length = σ.length) (h : ∀ j, j ∉ vs → σ'[j]? = σ[j]?) : wipe σ' vs = wipe σ vs := by
  apply List.ext_getElem?
  intro j
  by_cases hj : j ∈ vs
  · have key : ∀ (τ : L2.St), (wipe τ vs)[j]? = if j < τ.length then some none else none := fun τ => by
      have hlen := wipe_length τ vs
      by_cases hb : j < τ.length
      · rw [if_pos hb]
        have : j < (wipe τ vs).length := by omega
        cases q : (wipe τ vs)[j] with
        | none => rw [List.getElem?_eq_getElem this, q]
        | some x =>
          have q2 : (wipe τ vs)[j]? = some (some x) := by rw [List.getElem?_eq_getElem this, q]
          exact absurd hj (wipe_some q2).2
      · rw [if_neg hb, List.getElem?_eq_none (by omega)]
    rw [key, key, hl]
  · rw [wipe_out hj, wipe_out hj, h j hj]
end
theorem NmS.of_frz {S0 : Addr → Prop} {LL : Ow} {is nm m : List Nat} {a : Addr} (h : NmS S0 (Lfrz LL is) nm a) (h1 : ∀ i ∈ is, i ∈ m) (h2 : ∀ i ∈ nm, i ∈ m) : NmS S0 LL m a := ⟨h.1, fun i hi => by
  by_cases e : i ∈ is
  · exact h1 i e
  · refine h2 i (h.2 i ?_)
    rw [Lfrz_at, if_neg e]
    exact hi⟩
/-- behind the walk's end: the comprehension's list -/
theorem lc_read {K : PySem.W.Frag} {P : Pg} {cl : Cl} {W : WX} {e : C} {t : Tg} {k : IK} {es cd : List C} {σ : L2.St} {H : Hp} {Q : VK} (h : tE K P cl W (.lc e t k es cd) σ H Q) :
    tLc (tI K P cl W k es) (gTg K t) (tTs K P cl cd) (tE K P cl W0 e) (tgI t) σ H Q := by
  obtain ⟨S0, LL, ρ, q, E, R, hw, hq, he⟩ := h
  refine ⟨S0, LL, ρ, _, E, R, hw, fun ds J H1 s1 wk h1 => fun D hD => ?_, he⟩
  have R1 : Rel K P S0 (Lfrz (Lfrz LL (fzNm k es)) (tgI t)) (kil (tgI t) (frzIt k es ρ)) (wipe σ (tgI t)) H1 := by
    rw [frzIt_eq]
    exact ((R.same s1).frzL _).kil _ (wipe_length _ _) fun j hj => wipe_out hj
  have sub2 : ∀ {nm : List Nat} {a : Addr}, (∀ i ∈ nm, i ∈ nms (.lc e t k es cd)) → NmS S0 (Lfrz (Lfrz LL (fzNm k es)) (tgI t)) nm a → NmS S0 LL (nms (.lc e t k es cd)) a := fun {nm a} hn z => by
    have hz : ∀ i ∈ tgI t, i ∈ nms (.lc e t k es cd) := fun i hi => inr_ i (inr_ i (inr_ i hi))
    exact NmS.of_frz (NmS.of_frz z hz hn) (fun i hi => inr_ i (inl_ i (fz_sub i hi))) fun i hi => hi
  have wk0 : Wk K (SS S0 (Lfrz (Lfrz LL (fzNm k es)) (tgI t))) J H1 ds := fun S' hS => wk S' fun a o e z => hS a o e z.frz.frz
  generalize hLL : Lfrz (Lfrz LL (fzNm k es)) (tgI t) = L2 at R1 sub2 wk0
  generalize hρ : kil (tgI t) (frzIt k es ρ) = ρ2 at R1 h1
  refine ⟨fun i m H2 => m = ds.length - i ∧ ∃ acc vs, Same H1 H2 ∧ H2 D = some (.lst vs) ∧ Rps K (fun b => NmS S0 LL (nms (.lc e t k es cd)) b ∧ b ≠ D) H2 acc vs ∧
      lcW (fun ρ' q => wTs cl cd ρ' q) (fun ρ' q => wE cl e ρ' q fun _ _ => False) t ρ2 (ds.drop i) acc q, ⟨_, rfl, [], [], same_upd hD, upd_same, .nil, h1⟩, ?_⟩
  rintro i m H2 ⟨rfl, acc, vs, s2, hd2, ra, hl⟩
  have w := wk0 (SS (fun a => S0 a ∧ a ≠ D) L2) (fun a o ea z => ⟨⟨z.1, ne_of_none ea hD⟩, z.2⟩) H2 i (.of_same s2)
  cases ed : ds[i]? with
  | none =>
    have hi : ds.length ≤ i := by rw [List.getElem?_eq_none_iff] at ed; exact ed
    rw [List.drop_eq_nil_of_le hi] at hl
    refine .inl ⟨w.2 hi, hq _ _ H2 (sq_ s1 s2) ⟨?_, fun _ ds' ee => ?_⟩ hl⟩
    · simp only [Rp]
      refine ⟨D, vs, rfl, ?_, hd2, ra.wide fun b _ _ z => z.1⟩
      exact R.nmF s1 D hD
    · cases ee
      exact ⟨D, vs, rfl, same_none s1 hD, hd2, ra⟩
  | some d =>
    have hi : i < ds.length := (List.getElem?_eq_some_iff.mp ed).1
    obtain ⟨wg, wy⟩ := w.1 d ed
    have hdr : ds.drop i = d :: ds.drop (i + 1) := by
      rw [List.drop_eq_getElem_cons hi]
      congr 1
      rw [List.getElem?_eq_getElem hi] at ed
      exact Option.some.inj ed
    rw [hdr] at hl
    have hl : tgR t d ρ2 fun ρ' => wTs cl cd ρ' fun b => if b = true then wE cl e ρ' (fun v => acc.length < sizeLine ∧ lcW (fun ρ' q => wTs cl cd ρ' q) (fun ρ' q => wE cl e ρ' q fun _ _ => False) t ρ2 (ds.drop (i + 1)) (acc ++ [v]) q) (fun _ _ => False)
      else lcW (fun ρ' q => wTs cl cd ρ' q) (fun ρ' q => wE cl e ρ' q fun _ _ => False) t ρ2 (ds.drop (i + 1)) acc q := hl
    refine .inr ⟨wg, fun H' => ∃ acc vs, Same H1 H' ∧ H' D = some (.lst vs) ∧ Rps K (fun b => NmS S0 LL (nms (.lc e t k es cd)) b ∧ b ≠ D) H' acc vs ∧
      lcW (fun ρ' q => wTs cl cd ρ' q) (fun ρ' q => wE cl e ρ' q fun _ _ => False) t ρ2 (ds.drop (i + 1)) acc q, fun H' hH => ⟨ds.length - (i + 1), by omega, rfl, hH⟩, fun x H3 hy => ?_⟩
    obtain ⟨s3, rx⟩ := wy x H3 hy
    have hd3 : H3 D = some (.lst vs) := s3 D _ hd2
    have s13 : Same H1 H3 := sq_ s2 s3
    -- the item, not leaning on D: read it in the heap ahead of D
    have R3 : Rel K P (fun a => S0 a ∧ a ≠ D) L2 ρ2 (wipe σ (tgI t)) H3 := R1.but hD s13 ⟨_, hd3⟩
    refine tg_read R3 rx hl fun LL' ρ' σ' St hρ' => ?_
    have ew : wipe σ' (tgI t) = wipe (wipe σ (tgI t)) (tgI t) := wipe_eq St.ln St.out
    have ew := ew.trans (wipe_eq (wipe_length σ (tgI t)) fun j hj => wipe_out hj)
    refine ⟨ew, (fun a => S0 a ∧ a ≠ D), LL', ρ', _, St.rel, hρ', fun b H4 s4 hb => ?_⟩
    have hd4 : H4 D = some (.lst vs) := s4 D _ hd3
    have s14 : Same H1 H4 := sq_ s13 s4
    have ra4 := (ra.same s3).same s4
    cases b with
    | false => exact ⟨acc, vs, s14, hd4, ra4, hb⟩
    | true =>
      refine ⟨_, LL', ρ', _, _, St.rel.same s4, hb, fun v y H5 s5 rv hv => ?_, fun k fs cv dx H' s x h => h.elim⟩
      have hd5 : H5 D = some (.lst vs) := s5 D _ hd4
      have ra5 := ra4.same s5
      refine ⟨vs, hd5, by rw [← ra5.length]; exact hv.1, acc ++ [v], vs ++ [y], ?_, upd_same, ?_, hv.2⟩
      · exact fun a o ea => by
          have z := ne_of_none ea hD
          rw [upd_ne z]
          exact (sq_ s14 s5) a o ea
      · have kp : Kp (fun b => NmS S0 LL (nms (.lc e t k es cd)) b ∧ b ≠ D) H5 (upd H5 D (.lst (vs ++ [y]))) := fun a o ea h => by
          rw [upd_ne]
          · exact ea
          · rintro rfl
            rcases h with h | h
            · exact h.2 rfl
            · rw [hd5] at ea; cases ea; exact h (moL _) rfl
        refine Rps.append (Rps.mono (fun _ _ _ h => h) kp _ _ ra5) (.one (Rp.mono (fun a o _ z => ?_) kp _ _ (rv.1.wide (S' := fun b => NmS S0 LL (nms (.lc e t k es cd)) b ∧ b ≠ D) fun a _ _ z => ?_)))
        · exact z
        · refine ⟨?_, z.1.2⟩
          refine sub2 (fun i hi => inl_ i hi) ⟨z.1.1, fun i hi => ?_⟩
          have hi2 : a ∈ Lfrz (Lfrz LL (fzNm k es)) (tgI t) i := by rw [hLL]; exact hi
          exact z.2 i (by rw [St.keep i (Lfrz_in hi2).2]; exact hi)
end Uq

set_option maxHeartbeats 4000000
/-! Uq, part i8: sorted({e for t in it}), e a tuple of ints. -/
namespace Uq
open PySem PySem.Spec PySem.Calls PyProof.Rows L2 PpSet
section
variable {X : Cx}
/-- set.add of a tuple of ints -/
theorem addT_ok {pins : List (Addr × Obj)} {σ : L2.St} {H : Hp} {s : Shared} {E : Value → Shared → Prop} {Z b : Addr} {L : List (Addr × List Int)} {k : List Int} {Q : Value → Shared → Prop} (hu : X.A.units + 3 < cLine) (I : Inv X pins σ H s)
    (hZ : H Z = some (SetTO X.prog X.w Z L)) (hL : ∀ p ∈ L, SqT X.K H p.1 (p.2.map V.int)) (hb : SqT X.K H b (k.map V.int)) (few : L.length + 1 < 64)
    (h : ∀ L' s', (k ∈ L.map (·.2) → L' = L) → (k ∉ L.map (·.2) → L'.Perm ((b, k) :: L)) → Inv X pins σ (upd H Z (SetTO X.prog X.w Z L')) s' → Q .none s') : wpAny (model X.prog X.w) X.A (call (.builtin "set.add") [.ref Z, .ref b]) Q E s := by
  have R0 : SetT0 X.prog X.w s.heap Z L := (I.hok Z _ hZ).1
  obtain ⟨es, ep, t, R⟩ := R0.full fun p hp => I.isT (hL p hp)
  have hx : IsT X.prog X.w s.heap k b := I.isT hb
  obtain ⟨oz, hoz, hex, hdz⟩ := R.ob
  have hty : s.TypeIs (.ref Z) "set" := ⟨oz, hoz, hex.1⟩
  refine wpAny_call_entry F.slot_set_add hty F.entry_set_add ?_ (F.args_set_add_2 _ _)
  unfold Builtin.«set.add» Builtin.Frozenset.oneOther
  simp only [List.isEmpty_nil, bind_assoc]
  unfold Builtin.Frozenset.addrOf setAdd
  refine wpAny_bind (wpAny_pure ?_)
  try dsimp only
  refine wpAny_bind (wpAny_pure ?_)
  try dsimp only
  refine wpAny_bind ?_
  refine wpAny_holding (wpAny_bind (wpAny_pyHash_tuple (by show _ < cLine; simp; omega) hx ?_))
  refine add_at (s := { s with toks := s.toks + (k.length + 1) }) R hx (by show _ < cLine; simp; omega) few fun b1 h' L' es' ep' t' sb R' c1 c2 => ?_
  show wpAny _ _ (ret Value.none) _ _ _
  refine wpAny_pure ⟨_, rfl, h L' _ c1 c2 ?_⟩
  exact I.write (e := Z) (t' := s.toks + (k.length + 1)) (by rw [hZ]; trivial) (.inl rfl) (fun c u hc hu => (sb.2 c hc).trans hu) (by obtain ⟨o', ho', _⟩ := R'.ob; exact ⟨o', ho'⟩) (setTO_new R'.t0)
/-- what one turn puts into the set Z -/
def addR (P : Program) (w : World) (K : PySem.W.Frag) (Z : Addr) (y : V) (H : Hp) (Nx : Hp → Prop) : Prop := ∃ (b : Addr) (k : List Int) (L : List (Addr × List Int)), y = .ref b ∧ SqT K H b (k.map V.int) ∧ H Z = some (SetTO P w Z L) ∧ (∀ p ∈ L, SqT K H p.1 (p.2.map V.int)) ∧ L.length + 1 < 64 ∧
  ∀ L', (k ∈ L.map (·.2) → L' = L) → (k ∉ L.map (·.2) → L'.Perm ((b, k) :: L)) → Nx (upd H Z (SetTO P w Z L'))
/-- {elt for target in iter} -/
def tSt (P : Program) (w : World) (K : PySem.W.Frag) (wi : TI) (g : TG) (te : TE) (vs : List Nat) : TE := fun σ H Q => wi σ H fun J H1 => ∀ Z, H1 Z = none → ∃ Wf : Nat → Nat → Hp → Prop, (∃ m, Wf 0 m (upd H1 Z (SetTO P w Z []))) ∧
  ∀ i m H, Wf i m H → (J.stop i H ∧ Q (.ref Z) H) ∨ (J.go i H ∧ ∃ Nx : Hp → Prop, (∀ H', Nx H' → ∃ m', m' < m ∧ Wf (i + 1) m' H') ∧
    ∀ x H', J.yld i H x H' → g x (wipe σ vs) H' fun σ2 H2 => wipe σ2 vs = wipe σ vs ∧ te σ2 H2 fun y H4 => addR P w K Z y H4 Nx)
variable {elt tg iter : Expr} {sc : Scope} {own : List (PySem.Str × Nat)} {pos : Pos} {wi : TI} {g : TG} {te : TE}
/-- the empty set -/
abbrev emptyO (w : World) : Obj := newSetO w
theorem pe_st (hc : X.calm = true) (hu : X.A.units + 3 < cLine) (hN : X.N.Nodup) (hi : PI X tg iter wi) (ok : BlkOk X.N X.env.scope sc own)
    (hg : ∀ (s : Shared) (H : Hp) (Cc : Addr) (cl : List (PySem.Str × Addr)) (fp : List Addr), PG (X.blk s H sc (compEnvC sc cl Cc X.env) fp) tg g)
    (he : ∀ (s : Shared) (H : Hp) (Cc : Addr) (cl : List (PySem.Str × Addr)) (fp : List Addr), PE (X.blk s H sc (compEnvC sc cl Cc X.env) fp) elt te)
    (hs : ∀ x, foldedSetIterable iter X.env x = pure x) : PE X (.SetComp elt [⟨tg, iter, [], 0⟩] sc pos) (tSt X.prog X.w X.K wi g te (own.map (·.2))) := by
  refine ⟨fun pins s σ H Q I h => ?_⟩
  rw [eval_SetComp]
  have hfr : ∀ y ∈ sc.names, y.2 = .free → ∃ c, X.env.cells.lookup y.1 = some c := fun y hy e => by
    rcases ok.free y hy e with z | z
    · exact I.ok.has _ (.inl z)
    · exact I.ok.has _ (.inr z)
  refine wpAny_comprehension_free (use := none) rfl hs (closure_ok hfr) ok.kind (fun y hy e => by rw [ok.uniq y hy, e]) (thn (hi.run pins s σ H _ I h) fun xv s1 hx => thn hx fun itv s2 h2 => ?_)
  obtain ⟨it, fp, tn, J, H2, e0, I2, T, st2, f2, q⟩ := h2
  subst e0
  refine newSet_ok (newEnv_comp ?_)
  generalize hZ : s2.heap.objs.size = Z
  have nZ : H2 Z = none := I2.hok.fresh (Nat.le_of_eq hZ)
  obtain ⟨Wf, ⟨m0, w0⟩, turn⟩ := q Z nZ
  generalize es3 : ({ s2 with heap := s2.heap.push { cls := .type "set", dict := none, data := .set #[] 0 (.fresh 0 0 (!X.w.params.followText "set-order")) } } : Shared) = s3
  have h3 : s3.heap = s2.heap.push (newSetO X.w) := by rw [← es3]; rfl
  have I3 : Inv X pins σ (upd H2 Z (SetTO X.prog X.w Z [])) s3 := by
    rw [← es3]
    refine I2.laid (t' := s2.toks) (fun b o e => Heap.get?_push_of_some _ e) (Nat.le_of_eq hZ) ?_
    rw [← hZ]
    exact setTO_new (setTR_fresh (P := X.prog) (w := X.w) (Heap.get?_push_size _ rfl)).t0
  have small : ∀ b ∈ fp, b < s2.heap.objs.size := fun b hb => by
    obtain ⟨o, e, _⟩ := T.obj _ _ st2 b hb
    exact Heap.lt_size e
  have f3 : ∀ b ∈ fp, FpOk X pins (upd H2 Z (SetTO X.prog X.w Z [])) b ∧ b < s3.heap.objs.size := fun b hb => by
    have lt := small b hb
    refine ⟨⟨?_, (f2 b hb).2⟩, by rw [h3, Heap.size_push]; exact Nat.lt_succ_of_lt lt⟩
    rw [upd_ne (by rw [← hZ]; exact Nat.ne_of_lt lt)]
    exact (f2 b hb).1
  have st3 : tn 0 s3.heap := T.keep _ _ _ st2 fun b _ o e => by rw [h3]; exact Heap.get?_push_of_some _ e
  generalize eH3 : upd H2 Z (SetTO X.prog X.w Z []) = H3 at I3 f3 w0
  have I4 := block_start I3 ok hN f3
  have pg := hg s3 H3 s3.heap.objs.size (cellsFrom (s3.heap.objs.size + 1) sc.names (cloFrom X.env.cells sc.names [])) fp
  have pe := he s3 H3 s3.heap.objs.size (cellsFrom (s3.heap.objs.size + 1) sc.names (cloFrom X.env.cells sc.names [])) fp
  show codeAny _ _ (.compStart (.SetComp elt [⟨tg, iter, [], 0⟩] sc pos) 0 (.ref it) (.ref Z) (compEnvC sc (cellsFrom (s3.heap.objs.size + 1) sc.names (cloFrom X.env.cells sc.names [])) s3.heap.objs.size X.env)) (compPost (model X.prog X.w) X.A X.xe none (EP X pins σ Q) (.ref Z) s3.heap.objs.size)
    { s3 with heap := pushCells (s3.heap.push { cls := .type "dict", data := .dict #[] }) sc.names }
  have nfp : ∀ b ∈ fp, H3 b = none := fun b hb => (f3 b hb).1.1
  generalize ece : compEnvC sc (cellsFrom (s3.heap.objs.size + 1) sc.names (cloFrom X.env.cells sc.names [])) s3.heap.objs.size X.env = ce at I4 pg pe ⊢
  have loc : ce.locals = s3.heap.objs.size := by subst ece; rfl
  generalize es4 : ({ s3 with heap := pushCells (s3.heap.push { cls := .type "dict", data := .dict #[] }) sc.names } : Shared) = s4 at I4 ⊢
  have st4 : tn 0 s4.heap := T.keep _ _ _ st3 fun b _ o e => by rw [← es4]; exact pushCells_keeps _ _ _ _ (Heap.get?_push_of_some _ e)
  have stat : ∀ {τ : L2.St} {G : Hp} {z : Shared}, Inv (X.blk s3 H3 sc ce fp) [] τ G z → (∀ b ∈ fp, G b = none) → ∀ b ∈ fp, FpOk (X.blk s3 H3 sc ce fp) [] G b := fun {τ G z} Iz hn b hb =>
    ⟨hn b hb, (Iz.ok.exf b hb).1, Iz.ok.exfs b hb, .inl hb, fun x c e => (Iz.ok.exf b hb).2 x c e, fun p hp => absurd (show p ∈ ([] : List (Addr × Obj)) ++ [] from hp) (by simp)⟩
  have loop : codeAny (model X.prog X.w) X.A (.compLoop (.SetComp elt [⟨tg, iter, [], 0⟩] sc pos) 0 (.ref it) (.ref Z) ce) (compPost (model X.prog X.w) X.A X.xe none (EP X pins σ Q) (.ref Z) s3.heap.objs.size) s4 := by
    refine compLoopS_any (fun n z => ∃ i G, Inv (X.blk s3 H3 sc ce fp) [] (wipe σ (own.map (·.2))) G z ∧ tn i z.heap ∧ (∀ b ∈ fp, G b = none) ∧ Wf i n G) ?_ m0 ⟨0, H3, I4, st4, nfp, w0⟩
    rintro n s5 ⟨i, H5, I5, st5, n5, w5⟩
    rcases turn i n H5 w5 with ⟨stop, qq⟩ | ⟨go, Nx, hNx, step⟩
    · refine thnF (T.done (X.blk s3 H3 sc ce fp) rfl rfl rfl hc i [] s5 _ H5 (fun _ _ => False) I5 (stat I5 n5) st5 stop) fun r s6 ⟨hr, I6⟩ => ?_
      subst hr
      have I7 : Inv X pins σ H5 s6 := I3.call' (ch := fp) I6.os I6.base I6.hok I6.bare fun b hb => ⟨(f3 b hb).1.2.2.2.1, (f3 b hb).1.2.1, (f3 b hb).1.2.2.2.2.1, (f3 b hb).1.2.2.2.2.2⟩
      have nC : H5 s3.heap.objs.size = none := by
        have z : H5 ce.locals = none := I6.free
        rwa [loc] at z
      obtain ⟨m, hn, _⟩ := I6.loc
      have hn : s6.heap.Ns ce.locals m := hn
      rw [loc] at hn
      obtain ⟨f0, f1, f2, f3, f4, f5⟩ := I3.fpOk (Nat.le_refl _) nC
      exact ⟨m, hn, fun h'' sb => ⟨.ref Z, H5, I7.turned (t' := s6.toks) (fun b o hb e => (sb.2 b hb).trans e) f0 f1 f3 f4 f5, rfl, qq⟩⟩
    · refine thnF (T.item (X.blk s3 H3 sc ce fp) rfl rfl rfl hc i [] s5 _ H5 (fun _ _ => False) I5 (stat I5 n5) st5 go) fun r s6 ⟨u, hr, h6⟩ => ?_
      subst hr
      refine thnF h6 fun _ s7 ⟨x, H7, I7, r7, y7, st7, n7⟩ => ?_
      refine thnF (pg.run _ s7 _ H7 x u _ (I7.pinned (stat I7 n7) (T.obj _ _ st7)) r7 (step x H7 y7)) fun _ s8 ⟨σ8, H8, I8, hw8, q8⟩ => ?_
      have fin : ∀ {z : Shared} {G : Hp}, Inv (X.blk s3 H3 sc ce fp) ([] ++ pinsAt fp s7.heap) σ8 G z → Nx G → ∃ m, m < n ∧ ∃ i G, Inv (X.blk s3 H3 sc ce fp) [] (wipe σ (own.map (·.2))) G z ∧ tn i z.heap ∧ (∀ b ∈ fp, G b = none) ∧ Wf i m G := fun {z G} Iz nx => by
        obtain ⟨m', hm, w'⟩ := hNx G nx
        have pin : ∀ b ∈ fp, ∀ o, s7.heap.get? b = some o → z.heap.get? b = some o ∧ G b = none := fun b hb o e =>
          let y := Iz.pin (b, o) (List.mem_append_right _ (List.mem_append_right _ (mem_pinsAt hb e)))
          ⟨y.1, y.2.1⟩
        have hl : (wipe σ (own.map (·.2))).length = σ8.length := by rw [← hw8, wipe_length]
        refine ⟨m', hm, i + 1, G, (Iz.unpinned (pins := [])).weak hl (fun j v e => ?_), T.keep _ _ _ st7 fun b hb o e => (pin b hb o e).1, fun b hb => ?_, w'⟩
        · rw [← hw8] at e
          exact (wipe_some e).1
        · obtain ⟨o, e, _⟩ := T.obj _ _ st7 b hb
          exact (pin b hb o e).2
      refine wpAny_pure ?_
      simp only [if_true]
      refine thnF (pe.run _ s8 σ8 H8 _ I8 q8) fun z s10 ⟨yv, H10, I10, r10, b, k, L, ey, hb, hZ10, hL, few, nx⟩ => ?_
      subst ey
      cases (show z = Value.ref b from r10)
      exact addT_ok (X := X.blk s3 H3 sc ce fp) hu I10 hZ10 hL hb few fun L' s11 c1 c2 I11 => fin I11 (nx L' c1 c2)
  exact codeAny_compStart_set loop (T.self X.A 0 _ _ _ st4 loop)
end
end Uq

set_option maxHeartbeats 2000000
/-! Uq, part i9: sorted({e for t in it}); own dicts, read. -/
namespace Uq
open PySem PySem.Spec PyProof.Rows L2
/-! ### sorted({..}) -/
theorem ss_read {K : PySem.W.Frag} {Pr : Program} {w : World} {P : Pg} {cl : Cl} {W : WX} {e : C} {t : Tg} {k : IK} {es : List C} {σ : L2.St} {H : Hp} {Q : VK} (h : tE K P cl W (.ssc e t k es) σ H Q) :
    tSt Pr w K (tI K P cl W k es) (gTg K t) (tE K P cl W0 e) (tgI t) σ H fun x H' => rSortedT K Pr w [x] H' Q := by
  obtain ⟨S0, LL, ρ, q, E, R, hw, hq, he⟩ := h
  refine ⟨S0, LL, ρ, _, E, R, hw, fun ds J H1 s1 wk h1 => fun Z hZ => ?_, he⟩
  obtain ⟨n, B, hn, h1⟩ := h1
  have R1 : Rel K P S0 (Lfrz (Lfrz LL (fzNm k es)) (tgI t)) (kil (tgI t) (frzIt k es ρ)) (wipe σ (tgI t)) H1 := by
    rw [frzIt_eq]
    exact ((R.same s1).frzL _).kil _ (wipe_length _ _) fun j hj => wipe_out hj
  have wk0 : Wk K (SS S0 (Lfrz (Lfrz LL (fzNm k es)) (tgI t))) J H1 ds := fun S' hS => wk S' fun a o e z => hS a o e z.frz.frz
  generalize Lfrz (Lfrz LL (fzNm k es)) (tgI t) = L2 at R1 wk0
  generalize kil (tgI t) (frzIt k es ρ) = ρ2 at R1 h1
  generalize hF : (fun rows : List (List Int) => ∀ out : List (List Int), out.Nodup → (∀ r, r ∈ out ↔ r ∈ rows) → out.Pairwise (fun q r => TS.code B q ≤ TS.code B r) → q (.list (out.map rowD))) = F at h1
  -- what the set holds behind i turns
  refine ⟨fun i m H2 => m = ds.length - i ∧ ∃ rows L, Same H1 H2 ∧ H2 Z = some (SetTO Pr w Z L) ∧ (∀ p ∈ L, SqT K H2 p.1 (p.2.map V.int)) ∧ (∀ p ∈ L, p.2.length = n ∧ TS.Bd B p.2) ∧ (∀ r, r ∈ L.map (·.2) ↔ r ∈ rows) ∧ L.length ≤ rows.length ∧
      ssW (fun ρ' q => wE cl e ρ' q fun _ _ => False) t ρ2 n B (ds.drop i) rows F, ⟨_, rfl, ([] : List (List Int)), [], same_upd hZ, upd_same, (fun p h => absurd h List.not_mem_nil), (fun p h => absurd h List.not_mem_nil), (fun _ => Iff.rfl), Nat.le_refl _, h1⟩, ?_⟩
  rintro i m H2 ⟨rfl, rows, L, s2, hz2, hL, hB, hr, hl, hs⟩
  have wkk := wk0 (SS (fun a => S0 a ∧ a ≠ Z) L2) (fun a o ea z => ⟨⟨z.1, ne_of_none ea hZ⟩, z.2⟩) H2 i (.of_same s2)
  cases ed : ds[i]? with
  | none =>
    have hi : ds.length ≤ i := by rw [List.getElem?_eq_none_iff] at ed; exact ed
    rw [List.drop_eq_nil_of_le hi] at hs
    refine .inl ⟨wkk.2 hi, Z, L, n, B, rfl, hz2, hL, hn, hB, fun L' p perm nd few pw hp => ?_⟩
    have hs : F rows := hs
    rw [← hF] at hs
    have rr : Rps K (NmS S0 LL (nms (.ssc e t k es))) H2 ((L'.map (·.2)).map rowD) (L'.map fun q => V.ref q.1) := rows_back fun q hq => hL q (perm.mem_iff.mp hq)
    refine hq _ _ _ (sq_ (sq_ s1 s2) (same_upd hp)) (Res.from (sq_ s1 s2) (new_lst rr hp (R.nmF (sq_ s1 s2) p hp))) (hs (L'.map (·.2)) nd (fun r => ?_) ?_)
    · rw [← hr]
      exact (perm.map (·.2)).mem_iff
    · rw [List.pairwise_map]
      exact pw
  | some d =>
    have hi : i < ds.length := (List.getElem?_eq_some_iff.mp ed).1
    obtain ⟨wg, wy⟩ := wkk.1 d ed
    have hdr : ds.drop i = d :: ds.drop (i + 1) := by
      rw [List.drop_eq_getElem_cons hi]
      congr 1
      rw [List.getElem?_eq_getElem hi] at ed
      exact Option.some.inj ed
    rw [hdr] at hs
    have hs : tgR t d ρ2 fun ρ' => wE cl e ρ' (fun v => ∃ r, v = rowD r ∧ r.length = n ∧ TS.Bd B r ∧ rows.length + 1 < 64 ∧ ssW (fun ρ' q => wE cl e ρ' q fun _ _ => False) t ρ2 n B (ds.drop (i + 1)) (rows ++ [r]) F) (fun _ _ => False) := hs
    refine .inr ⟨wg, fun H' => ∃ rows L, Same H1 H' ∧ H' Z = some (SetTO Pr w Z L) ∧ (∀ p ∈ L, SqT K H' p.1 (p.2.map V.int)) ∧ (∀ p ∈ L, p.2.length = n ∧ TS.Bd B p.2) ∧ (∀ r, r ∈ L.map (·.2) ↔ r ∈ rows) ∧ L.length ≤ rows.length ∧
      ssW (fun ρ' q => wE cl e ρ' q fun _ _ => False) t ρ2 n B (ds.drop (i + 1)) rows F, fun H' hH => ⟨ds.length - (i + 1), by omega, rfl, hH⟩, fun x H3 hy => ?_⟩
    obtain ⟨s3, rx⟩ := wy x H3 hy
    have hz3 := s3 Z _ hz2
    have s13 : Same H1 H3 := sq_ s2 s3
    have R3 : Rel K P (fun a => S0 a ∧ a ≠ Z) L2 ρ2 (wipe σ (tgI t)) H3 := R1.but hZ s13 ⟨_, hz3⟩
    refine tg_read R3 rx hs fun LL' ρ' σ' St hρ' => ?_
    have ew := (wipe_eq St.ln St.out).trans (wipe_eq (wipe_length σ (tgI t)) fun j hj => wipe_out hj)
    refine ⟨ew, _, LL', ρ', _, _, St.rel, hρ', fun v y H5 s5 rv hv => ?_, fun k fs cv dx H' s x h => h.elim⟩
    obtain ⟨r, rfl, r1, r2, r3, hv⟩ := hv
    obtain ⟨b, xs, rfl, hb, rxs⟩ := rv.1.tup_
    rw [rxs.ints_] at hb
    have s35 : Same H2 H5 := sq_ s3 s5
    have hL5 : ∀ p ∈ L, SqT K H5 p.1 (p.2.map V.int) := fun p hp => Kp.sqT (S := fun _ => False) (.of_same s35) (hL p hp)
    refine ⟨b, r, L, rfl, hb, s5 Z _ hz3, hL5, by omega, fun L' c1 c2 => ?_⟩
    have sz : Same H1 (upd H5 Z (SetTO Pr w Z L')) := fun a o ea => by
      rw [upd_ne (ne_of_none ea hZ)]
      exact (sq_ s2 s35) a o ea
    have keep : ∀ c ys, SqT K H5 c ys → SqT K (upd H5 Z (SetTO Pr w Z L')) c ys := fun c ys hc => by
      have nz : ∀ o, H5 c = some o → (∀ u, o ≠ SetTO Pr w Z u) → c ≠ Z := fun o e n z => by
        subst z
        rw [s5 c _ hz3] at e
        exact n L (Option.some.inj e).symm
      rcases hc with (hc | ⟨o, hc⟩) | hc
      · exact .inl (.inl (by rw [upd_ne (nz _ hc fun _ z => by cases z)]; exact hc))
      · exact .inl (.inr ⟨o, by rw [upd_ne (nz _ hc fun _ z => by cases z)]; exact hc⟩)
      · exact .inr hc
    by_cases hm : r ∈ L.map (·.2)
    · rw [c1 hm] at sz keep ⊢
      refine ⟨rows ++ [r], L, sz, upd_same, fun p hp => keep _ _ (hL5 p hp), hB, fun r' => ?_, by simp; omega, hv⟩
      rw [List.mem_append, List.mem_singleton, ← hr]
      exact ⟨.inl, fun h => h.elim id fun h => by rw [h]; exact hm⟩
    · have pm := c2 hm
      refine ⟨rows ++ [r], L', sz, upd_same, fun p hp => ?_, fun p hp => ?_, fun r' => ?_, by rw [pm.length_eq]; simp; omega, hv⟩
      · rcases List.mem_cons.mp (pm.mem_iff.mp hp) with rfl | hp
        · exact keep _ _ hb
        · exact keep _ _ (hL5 p hp)
      · rcases List.mem_cons.mp (pm.mem_iff.mp hp) with rfl | hp
        · exact ⟨r1, r2⟩
        · exact hB p hp
      · rw [(pm.map (·.2)).mem_iff, List.map_cons, List.mem_cons, hr, List.mem_append, List.mem_singleton]
        exact Or.comm
section
variable {X : Cx} {P : Pg} {cl : Cl} {W : WX} {a' b' c' e' it tg : Expr} {a b c e : C} {pos p cpos apos : Pos} {t : Tg} {k : IK} {es : List C} {sc osc : Scope} {own : List (Str × Nat)} {i : Nat} {x : Str}
theorem e_ssc (hc : X.calm = true) (hu : X.A.units + 3 < cLine) (hN : X.N.Nodup) (hg : Gl X "sorted") (hm : X.mg "sorted" = none) (hi : PI X tg it (tI X.K P cl W k es)) (ok : BlkOk X.N X.env.scope osc own) (eo : own.map (·.2) = tgI t)
    (ht : ∀ (s : Shared) (H : Hp) (Cc : Addr) (cl' : List (PySem.Str × Addr)) (fp : List Addr), PG (X.blk s H osc (compEnvC osc cl' Cc X.env) fp) tg (gTg X.K t))
    (he : ∀ (s : Shared) (H : Hp) (Cc : Addr) (cl' : List (PySem.Str × Addr)) (fp : List Addr), PE (X.blk s H osc (compEnvC osc cl' Cc X.env) fp) e' (tE X.K P cl W0 e))
    (hs : ∀ x, foldedSetIterable it X.env x = pure x) : PE X (.Call (.Name "sorted" p) [.SetComp e' [⟨tg, it, [], 0⟩] osc cpos] [] pos) (tE X.K P cl W (.ssc e t k es)) := by
  have inner := pe_st (pos := cpos) hc hu hN hi ok ht he hs
  rw [eo] at inner
  refine peI (pe_callB (cr_sortedT hc) hg hm sorted_boot (pa_cons inner pa_nil rfl) (by decide) (by decide) rfl rfl) fun σ H Q h => ?_
  exact ss_read (Pr := X.prog) (w := X.w) h

/-! ### dicts -/
end
/-- y is the key ns -/
def KeyV (H : Hp) (t : Bool) (ns : List Int) (y : V) : Prop := match t with
  | false => ∃ i, ns = [i] ∧ y = .int i
  | true => ∃ b, y = .ref b ∧ H b = some (.tup (ns.map V.int))
theorem KeyV.same {H H' : Hp} {t : Bool} {ns : List Int} {y : V} (h : KeyV H t ns y) (s : Same H H') : KeyV H' t ns y := by
  cases t with
  | false => exact h
  | true => obtain ⟨b, e, hb⟩ := h; exact ⟨b, e, s b _ hb⟩
theorem kV_ints : ∀ ns : List Int, (ns.map (Sum.inl : Int → Key)).map kV = ns.map V.int
  | [] => rfl
  | n :: ns => by
    rw [List.map_cons, List.map_cons, List.map_cons, kV_ints ns]
    rfl
theorem inl_inj : ∀ {a b : List Int}, a.map (Sum.inl : Int → Key) = b.map Sum.inl → a = b
  | [], [], _ => rfl
  | [], _ :: _, h => by cases h
  | _ :: _, [], h => by cases h
  | a :: as, b :: bs, h => by
    rw [List.map_cons, List.map_cons] at h
    injection h with h1 h2
    rw [Sum.inl.inj h1, inl_inj h2]
section
variable {K : PySem.W.Frag} {S : Addr → Prop} {H : Hp}
/-- the entry, in both -/
inductive OEn (K : PySem.W.Frag) (S : Addr → Prop) (H : Hp) : Option D → Option V → Prop
  | no : OEn K S H none none
  | yes {d : D} {v : V} (n : noL d = true) (r : Rp K S H d v) : OEn K S H (some d) (some v)
theorem OEn.isSome {o : Option D} {u : Option V} (h : OEn K S H o u) : u.isSome = o.isSome := by cases h <;> rfl
theorem look_cons {p : List Int × D} {ps : List (List Int × D)} {ns : List Int} : look (p :: ps) ns = if p.1 = ns then some p.2 else look ps ns := by
  unfold look
  rw [List.find?_cons]
  by_cases e : p.1 = ns
  · simp [e]
  · simp [e]
theorem valE_cons {κ : Type} [DecidableEq κ] {p : κ × V} {ps : List (κ × V)} {k : κ} : valV (p :: ps) k = if p.1 = k then some p.2 else valV ps k := by
  by_cases e : p.1 = k
  · rw [valV_pos e, if_pos e]
  · rw [valV_neg e, if_neg e]
theorem REn.look : ∀ {ps : List (List Int × D)} {qs : List (List Key × V)} (ns : List Int), REn K S H ps qs → OEn K S H (Uq.look ps ns) (valV qs (ns.map Sum.inl))
  | [], [], _, _ => .no
  | [], _ :: _, _, h => h.elim
  | _ :: _, [], _, h => h.elim
  | p :: ps, q :: qs, ns, ⟨⟨h1, h2, h3⟩, h⟩ => by
    rw [look_cons, valE_cons, h1]
    by_cases e : p.1 = ns
    · rw [if_pos e, if_pos (by rw [e])]
      exact .yes h2 h3
    · rw [if_neg e, if_neg fun z => e (inl_inj z)]
      exact h.look ns
theorem REn.len : ∀ {ps : List (List Int × D)} {qs : List (List Key × V)}, REn K S H ps qs → ps.length = qs.length
  | [], [], _ => rfl
  | [], _ :: _, h => h.elim
  | _ :: _, [], h => h.elim
  | _ :: _, _ :: _, h => by simp [h.2.len]
theorem REn.any : ∀ {ps : List (List Int × D)} {qs : List (List Key × V)} (ns : List Int), REn K S H ps qs → (qs.any fun q => decide (q.1 = ns.map Sum.inl)) = ps.any fun p => decide (p.1 = ns)
  | [], [], _, _ => rfl
  | [], _ :: _, _, h => h.elim
  | _ :: _, [], _, h => h.elim
  | p :: ps, q :: qs, ns, ⟨⟨h1, _, _⟩, h⟩ => by
    rw [List.any_cons, List.any_cons, h.any ns, h1]
    congr 1
    by_cases e : p.1 = ns
    · rw [e]; simp
    · rw [decide_eq_false e, decide_eq_false fun z => e (inl_inj z)]
theorem REn.repl {d : D} {v : V} (n : noL d = true) (r : Rp K S H d v) : ∀ {ps : List (List Int × D)} {qs : List (List Key × V)} (ns : List Int), REn K S H ps qs →
    REn K S H (ps.map fun p => if p.1 = ns then (p.1, d) else p) (qs.map fun q => if q.1 = ns.map Sum.inl then (q.1, v) else q)
  | [], [], _, _ => trivial
  | [], _ :: _, _, h => h.elim
  | _ :: _, [], _, h => h.elim
  | p :: ps, q :: qs, ns, ⟨⟨h1, h2, h3⟩, h⟩ => by
    refine ⟨?_, REn.repl n r ns h⟩
    dsimp only
    by_cases e : p.1 = ns
    · rw [if_pos e, if_pos (by rw [h1, e])]
      exact ⟨h1, n, r⟩
    · rw [if_neg e, if_neg fun z => e (inl_inj (h1.symm.trans z))]
      exact ⟨h1, h2, h3⟩
theorem REn.snoc {d : D} {v : V} (n : noL d = true) (r : Rp K S H d v) (ns : List Int) : ∀ {ps : List (List Int × D)} {qs : List (List Key × V)}, REn K S H ps qs → REn K S H (ps ++ [(ns, d)]) (qs ++ [(ns.map Sum.inl, v)])
  | [], [], _ => ⟨⟨rfl, n, r⟩, trivial⟩
  | [], _ :: _, h => h.elim
  | _ :: _, [], h => h.elim
  | _ :: _, _ :: _, h => ⟨h.1, REn.snoc n r ns h.2⟩
theorem REn.put {d : D} {v : V} (n : noL d = true) (r : Rp K S H d v) (ns : List Int) {ps : List (List Int × D)} {qs : List (List Key × V)} (h : REn K S H ps qs) : REn K S H (putD ps ns d) (putK qs (ns.map Sum.inl) v) := by
  unfold putD putK
  rw [h.any ns]
  split
  · exact h.repl n r ns
  · exact h.snoc n r ns
abbrev oneK : Key × V → List Key × V := fun q => ([q.1], q.2)
theorem oneK_ne {q : Key × V} {i : Int} (e : ¬ q.1 = .inl i) : ¬ (oneK q).1 = [i].map (Sum.inl : Int → Key) := fun z => e (List.cons.inj (show [q.1] = [Sum.inl i] from z)).1
theorem val_oneK {i : Int} : ∀ kk : List (Key × V), valV (kk.map oneK) ([i].map Sum.inl) = valV kk (.inl i)
  | [] => rfl
  | q :: kk => by
    rw [List.map_cons, valE_cons, valE_cons, val_oneK kk]
    by_cases e : q.1 = .inl i
    · rw [if_pos e, if_pos (by show [q.1] = _; rw [e]; rfl)]
    · rw [if_neg e, if_neg (oneK_ne e)]
theorem any_oneK {i : Int} : ∀ kk : List (Key × V), ((kk.map oneK).any fun q => decide (q.1 = [i].map Sum.inl)) = kk.any fun q => decide (q.1 = .inl i)
  | [] => rfl
  | q :: kk => by
    rw [List.map_cons, List.any_cons, List.any_cons, any_oneK kk]
    congr 1
    by_cases e : q.1 = .inl i
    · rw [decide_eq_true e, decide_eq_true]
      show [q.1] = _
      rw [e]; rfl
    · rw [decide_eq_false e, decide_eq_false (oneK_ne e)]
theorem put_oneK {i : Int} {v : V} (kk : List (Key × V)) : (putK kk (.inl i) v).map oneK = putK (kk.map oneK) ([i].map Sum.inl) v := by
  unfold putK
  rw [any_oneK]
  split
  · rw [List.map_map, List.map_map]
    apply List.map_congr_left
    intro q _
    show oneK (if q.1 = .inl i then (q.1, v) else q) = if (oneK q).1 = [i].map Sum.inl then ((oneK q).1, v) else oneK q
    by_cases e : q.1 = .inl i
    · rw [if_pos e, if_pos (by show [q.1] = _; rw [e]; rfl)]
    · rw [if_neg e, if_neg (oneK_ne e)]
  · rw [List.map_append]; rfl
/-- reading, in the hand layer's words -/
theorem DcAt.get {a : Addr} {t : Bool} {en : List (List Key × V)} {ns : List Int} {y : V} (h : DcAt H a t en) (k : KeyV H t ns y) : DGet H a y (valV en (ns.map Sum.inl)) := by
  cases t with
  | true =>
    obtain ⟨b, rfl, hb⟩ := k
    exact DGet.t h (by rw [kV_ints]; exact hb)
  | false =>
    obtain ⟨i, rfl, rfl⟩ := k
    obtain ⟨kk, h, rfl⟩ := h
    rw [val_oneK]
    exact DGet.k (k := .inl i) h
theorem DcAt.isD {a : Addr} {t : Bool} {en : List (List Key × V)} (h : DcAt H a t en) : IsD H a := by
  cases t with
  | true => exact .inr ⟨_, .inl h⟩
  | false => obtain ⟨kk, h, _⟩ := h; exact .inl ⟨_, .inl h⟩
/-- .. writing -/
theorem DcAt.put {a : Addr} {t : Bool} {en : List (List Key × V)} {ns : List Int} {y v : V} (h : DcAt H a t en) (k : KeyV H t ns y) (hl : en.length < sizeLine) : ∃ o : Mo, DPut H a y v (upd H a o.1) ∧ DcAt (upd H a o.1) a t (putK en (ns.map Sum.inl) v) := by
  cases t with
  | true =>
    obtain ⟨b, rfl, hb⟩ := k
    exact ⟨⟨_, .inr (.inr ⟨_, rfl⟩)⟩, DPut.t h (by rw [kV_ints]; exact hb) hl, upd_same⟩
  | false =>
    obtain ⟨i, rfl, rfl⟩ := k
    obtain ⟨kk, h, rfl⟩ := h
    exact ⟨⟨_, .inr (.inl ⟨_, rfl⟩)⟩, DPut.k (k := .inl i) h (by simpa using hl), _, upd_same, (put_oneK kk).symm⟩
end
section
variable {K : PySem.W.Frag} {P : Pg} {S0 : Addr → Prop} {LL : Ow} {ρ : Env} {σ : L2.St} {H H1 : Hp} {i n : Nat}
theorem Rel.atD (R : Rel K P S0 LL ρ σ H) {t : Bool} {kvs : List (List Int × D)} (e : ρ[i]? = some (.dc t kvs)) : ∃ a en, σ[i]? = some (some (.ref a)) ∧ LL i = [a] ∧ DcAt H a t en ∧ REn K (SS S0 LL) H kvs en := by
  obtain ⟨a, en, ev, eL, ha, r⟩ := R.slot i _ e
  refine ⟨a, en, ?_, eL, ha, r⟩
  cases q : σ[i]? with
  | none => rw [q] at ev; cases ev
  | some w => rw [q] at ev; exact congrArg some ev
end
section
variable {X : Cx} {P : Pg} {cl : Cl} {W : WX} {a' b' c' d' : Expr} {a b c : C} {pos p cpos apos : Pos} {es ds : List C} {i : Nat} {x : Str} {t : Bool}
/-- a dict's key -/
def tKey (K : PySem.W.Frag) (P : Pg) (cl : Cl) (W : WX) (t : Bool) (es : List C) : TE := fun σ H Q => ∃ S0 LL ρ q e, Rel K P S0 LL ρ σ H ∧ wEs cl es ρ q e ∧
  (∀ ds, q ds → ∃ ns, ints? ds = some ns ∧ (t = false → ds.length = 1) ∧ ∀ y H', Same H H' → KeyV H' t ns y → Q y H') ∧ (∀ k fs cv dx H', Same H H' → XRp K P H' k fs cv dx → e k fs → W cv dx σ H')
theorem key_one (ha : PE X a' (tE X.K P cl W a)) : PE X a' (tKey X.K P cl W false [a]) := by
  refine peI ha fun σ H Q ⟨S0, LL, ρ, q, e, R, hw, hq, he⟩ => ⟨S0, LL, ρ, _, e, R, hw, fun d v H' s r h => ?_, he⟩
  obtain ⟨ns, e1, _, hQ⟩ := hq [d] h
  have ed : [d] = ns.map PyData.int := ints_eq e1
  match ns, ed with
  | [j], ed =>
    cases ed
    exact hQ _ H' s ⟨j, rfl, r.1.int_⟩
theorem key_tup {es' : List Expr} {kk : Nat} (hn : es.length ≤ 1000) (h : PA X es' (tEsL X.K P cl W es)) : PE X (.Tuple es' kk pos) (tKey X.K P cl W true es) := by
  refine peI (pe_tup h) fun σ H Q ⟨S0, LL, ρ, q, e, R, hw, hq, he⟩ => ⟨S0, LL, ρ, _, e, R, hw, fun ds vs H1 s1 r1 l1 h1 => ⟨len1000 (by rw [← r1.length, l1]; exact hn), fun p hp => ?_⟩, he⟩
  obtain ⟨ns, e1, _, hQ⟩ := hq ds h1
  rw [ints_eq e1] at r1
  rw [r1.ints_]
  exact hQ _ _ (sq_ s1 (same_upd hp)) ⟨p, rfl, upd_same⟩
theorem dq_at {K : PySem.W.Frag} {o : Dq} {S0 : Addr → Prop} {LL : Ow} {ρ : Env} {σ : L2.St} {H : Hp} {q : QD} {e : Ex} (R : Rel K P S0 LL ρ σ H) (hw : wE cl (.dq o t es i ds) ρ q e) : ∃ l kvs, σ[i]? = some (some (.ref l)) ∧ ρ[i]? = some (.dc t kvs) ∧
    wEs cl es ρ (fun vs => (t = false → vs.length = 1) ∧ ∃ ns, ints? vs = some ns ∧ dqR o kvs ns (fun q => wEs cl ds ρ q e) q) e := by
  unfold wE at hw
  cases eo : ρ[i]? with
  | none => rw [eo] at hw; exact hw.elim
  | some s =>
    rw [eo] at hw
    cases s <;> first | exact hw.elim | skip
    obtain ⟨rfl, hw⟩ := hw
    obtain ⟨l, en, e1, _⟩ := R.atD eo
    exact ⟨l, _, e1, rfl, hw⟩
theorem dq_key {K : PySem.W.Frag} {S0 : Addr → Prop} {LL : Ow} {ρ : Env} {σ : L2.St} {H : Hp} {F : List Int → Prop} {e : Ex} {Q : VK} {l : Addr} {kvs : List (List Int × D)} (R : Rel K P S0 LL ρ σ H) (eo : ρ[i]? = some (.dc t kvs)) (el : σ[i]? = some (some (.ref l)))
    (hw : wEs cl es ρ (fun vs => (t = false → vs.length = 1) ∧ ∃ ns, ints? vs = some ns ∧ F ns) e) (he : ∀ k fs cv dx H', Same H H' → XRp K P H' k fs cv dx → e k fs → W cv dx σ H')
    (hQ : ∀ ns y H' en, Same H H' → DcAt H' l t en → REn K (SS S0 LL) H' kvs en → KeyV H' t ns y → F ns → Q y H') : tKey K P cl W t es σ H Q := by
  refine ⟨S0, LL, ρ, _, e, R, hw, fun vs ⟨h1, ns, h2, h3⟩ => ⟨ns, h2, h1, fun y H' s k => ?_⟩, he⟩
  obtain ⟨l', en, e1, _, e3, e4⟩ := (R.same s).atD eo
  rw [el] at e1
  cases e1
  exact hQ ns y H' en s e3 e4 k h3
theorem e_dget (hu : X.A.units + 1 < cLine) (hi : X.N[i]? = some x) (hv : Vis X.env.scope x) (hd : (x == ("__debug__" : Str)) = false) (hcd : (x == ("__classdict__" : Str)) = false) (ha : PE X a' (tKey X.K P cl W t es)) (hs : NoSl a') :
    PE X (.Subscript (.Name x p) a' pos) (tE X.K P cl W (.dq .get t es i ds)) := by
  refine peI (pe_dget hu (pe_var hi hv hd hcd) ha hs) fun σ H Q ⟨S0, LL, ρ, q, e, R, hw, hq, he⟩ => ?_
  obtain ⟨l, kvs, el, eo, hw⟩ := dq_at R hw
  refine ⟨_, el, dq_key R eo el hw he fun ns y H' en s hdc hen hk h => ?_⟩
  obtain ⟨d, h1, h2⟩ := h
  have o := hen.look ns
  rw [h1] at o
  generalize eu : valV en (ns.map Sum.inl) = u at o
  cases o with
  | yes n r =>
    have g := hdc.get hk
    rw [eu] at g
    exact ⟨l, _, rfl, g, hq _ _ H' s (.fls (Rp.noL _ _ n r)) h2⟩
theorem pc_dmem {n : Bool} (hu : X.A.units + 1 < cLine) (hi : X.N[i]? = some x) (hv : Vis X.env.scope x) (hd : (x == ("__debug__" : Str)) = false) (hcd : (x == ("__classdict__" : Str)) = false) (ha : PE X a' (tKey X.K P cl W t es)) :
    PC X (if n = true then .NotIn else .In) a' (.Name x p) (fun σ H Q => tKey X.K P cl W t es σ H fun y H1 => ∃ v, σ[i]? = some (some v) ∧ ∃ a o, v = .ref a ∧ DGet H1 a y o ∧ Q (.bl (o.isSome != n)) H1) := by
  cases n with
  | false => exact ⟨fun pins s σ H Q I h => (pc_din hu ha (pe_var hi hv hd hcd)).run pins s σ H Q I (by
      obtain ⟨S0, LL, ρ, q, e, R, hw, hq, he⟩ := h
      refine ⟨S0, LL, ρ, q, e, R, hw, fun ds hd => ?_, he⟩
      obtain ⟨ns, h1, h2, h3⟩ := hq ds hd
      refine ⟨ns, h1, h2, fun y H' s k => ?_⟩
      obtain ⟨v, ev, a, o, e1, g, hQ⟩ := h3 y H' s k
      exact ⟨v, ev, a, o, e1, g, by simpa using hQ⟩)⟩
  | true => exact ⟨fun pins s σ H Q I h => (pc_dnotin hu ha (pe_var hi hv hd hcd)).run pins s σ H Q I (by
      obtain ⟨S0, LL, ρ, q, e, R, hw, hq, he⟩ := h
      refine ⟨S0, LL, ρ, q, e, R, hw, fun ds hd => ?_, he⟩
      obtain ⟨ns, h1, h2, h3⟩ := hq ds hd
      refine ⟨ns, h1, h2, fun y H' s k => ?_⟩
      obtain ⟨v, ev, a, o, e1, g, hQ⟩ := h3 y H' s k
      exact ⟨v, ev, a, o, e1, g, by simpa using hQ⟩)⟩
theorem dmem_read {K : PySem.W.Frag} {n : Bool} {S0 : Addr → Prop} {LL : Ow} {ρ : Env} {σ : L2.St} {H : Hp} {q : QD} {e : Ex} {Q : VK} (R : Rel K P S0 LL ρ σ H) (hw : wE cl (.dq (.mem n) t es i ds) ρ q e)
    (he : ∀ k fs cv dx H', Same H H' → XRp K P H' k fs cv dx → e k fs → W cv dx σ H') (hq : ∀ k H', Same H H' → q (.bool k) → Q (.bl k) H') :
    tKey K P cl W t es σ H fun y H1 => ∃ v, σ[i]? = some (some v) ∧ ∃ a o, v = .ref a ∧ DGet H1 a y o ∧ Q (.bl (o.isSome != n)) H1 := by
  obtain ⟨l, kvs, el, eo, hw⟩ := dq_at R hw
  refine dq_key R eo el hw he fun ns y H' en s hdc hen hk h => ⟨_, el, l, _, rfl, hdc.get hk, ?_⟩
  rw [(hen.look ns).isSome]
  exact hq _ H' s h
theorem e_dmem {n : Bool} (hu : X.A.units + 1 < cLine) (hi : X.N[i]? = some x) (hv : Vis X.env.scope x) (hd : (x == ("__debug__" : Str)) = false) (hcd : (x == ("__classdict__" : Str)) = false) (ha : PE X a' (tKey X.K P cl W t es)) :
    PE X (.Compare a' [if n = true then .NotIn else .In] [.Name x p] pos) (tE X.K P cl W (.dq (.mem n) t es i ds)) :=
  peI (pe_cmp (pc_dmem hu hi hv hd hcd ha) (by cases n <;> rfl)) fun σ H Q ⟨S0, LL, ρ, q, e, R, hw, hq, he⟩ => dmem_read R hw he fun k H' s h => hq _ _ H' s res_bl h
theorem NoSl.of {e : Expr} (h : okE e = true) : NoSl e := fun _ _ => by cases e <;> first | rfl | cases h
theorem e_dgetd {d' : Expr} {dd : C} (hu : X.A.units + 1 < cLine) (hi : X.N[i]? = some x) (hv : Vis X.env.scope x) (hd : (x == ("__debug__" : Str)) = false) (hcd : (x == ("__classdict__" : Str)) = false) (ha : PE X a' (tKey X.K P cl W t es)) (oa : okE a' = true)
    (hdd : PE X d' (tE X.K P cl W dd)) (od : okE d' = true) (hl : (apos.endLine == cpos.line) = true) : PE X (.Call (.Attribute (.Name x p) "get" apos) [a', d'] [] cpos) (tE X.K P cl W (.dq .getd t es i [dd])) := by
  have tr : starEach [a', d'] X.env = [(false, eval a' X.env), (false, eval d' X.env)] := by
    rw [okE_star oa, okE_star od]; rfl
  have bt : backTo cpos (starEach [a', d'] X.env) = [(false, eval a' X.env), (false, eval d' X.env)] := by rw [tr]; rfl
  refine peI (pe_dget2 hu (pe_var hi hv hd hcd) ha hdd ⟨rfl, by rw [bt]; rfl, hl, bt⟩) fun σ H Q ⟨S0, LL, ρ, q, e, R, hw, hq, he⟩ => ?_
  obtain ⟨l, kvs, el, eo, hw⟩ := dq_at R hw
  obtain ⟨l0, en0, e1, _, e3, _⟩ := R.atD eo
  rw [el] at e1
  cases e1
  refine ⟨_, el, l, rfl, e3.isD, dq_key R eo el hw he fun ns y H' en s hdc hen hk h => ?_⟩
  refine ⟨S0, LL, ρ, _, e, R.same s, h, fun d v H2 s2 r2 h2 => ?_, fun k fs cv dx H' s2 x h => he k fs cv dx H' (sq_ s s2) x h⟩
  obtain ⟨hn, h2⟩ := h2
  have R2 := (R.same s).same s2
  obtain ⟨l2, en2, g1, _, g3, g4⟩ := R2.atD eo
  rw [el] at g1
  cases g1
  have o := g4.look ns
  generalize eu : valV en2 (ns.map Sum.inl) = u at o
  have g := g3.get (hk.same s2)
  rw [eu] at g
  refine ⟨u, g, ?_⟩
  generalize look kvs ns = ol at o h2
  cases o with
  | no => exact hq _ _ H2 (sq_ s s2) (.fls (Rp.noL _ _ hn r2.1)) h2
  | yes n r => exact hq _ _ H2 (sq_ s s2) (.fls (Rp.noL _ _ n r)) h2
end
end Uq

set_option maxHeartbeats 1000000
/-! Uq, part l: every checked expression runs as its core term says. -/
namespace Uq
open PySem PySem.Spec PyProof.Rows L2
def biNames : List Str := ["len", "abs", "int", "bool", "max", "min", "sum", "tuple", "list", "sorted", "any", "all", "str", "dict", "isinstance", "range", "enumerate", "set", "ValueError", "divmod"]
/-- what __init__ of the class at C does: self.f = value, field by field -/
def xsp (C : Addr) (fl : List Str) : Sp := fun us H Q _ => us.length = fl.length + 1 ∧ ∃ a vs, us = .ref a :: vs ∧ H a = some (exo a C none) ∧ ∀ d H2, H d = none → d ≠ a → H2 a = some (exo a C (some d)) → H2 d = some (exd d (fl.zip vs).reverse) →
  (∀ b, b ≠ a → b ≠ d → H2 b = H b) → Q .non H2
/-- a class that is raised -/
structure XMk (prog : Program) (w : World) (Kf : PySem.W.Frag) (mg : Str → Option Value) (base : Heap) (C : Addr) (fl : List Str) : Prop where
  oex : OexC Kf C
  ini : ∃ fI fd ps, PySem.W.findIn Kf (.ref C) "__init__" = some (some (.ref fI)) ∧ PySem.W.typeIn Kf (.ref fI) = some (.type "function") ∧ FnOk prog w Kf mg base CX0 1 fI fd ps (xsp C fl) ∧ Binds Kf fd ps []
  few : fl.length ≤ 100
/-- what stands of a frame's surroundings -/
structure Gd (X : Cx) (cf : Cf) (P : Pg) (cl : Cl) (k : Nat) : Prop where
  eN : X.N = cf.N
  nd : X.N.Nodup
  calm : X.calm = true
  rm : Room k X.A
  xa : P.xa = xa0
  bi : ∀ x ∈ biNames, X.mg x = none
  k2 : 2 ≤ k
  xc : ∀ x c, cf.xcI x = some c → X.mg x = some (.ref (P.CA c))
  rzE : cf.rz = P.rz
  made : ∀ c ∈ P.rz, XMk X.prog X.w X.K X.mg X.base (P.CA c) (P.flds c)
  fl : ∀ c, cl.flds c = P.flds c
  sub : ∀ c ∈ P.rz, ∀ x h, cf.xcI x = some h → PySem.W.exmOne X.K (.ref (P.CA c)) (.ref (P.CA h)) = some (cl.sub c h) ∧ PySem.W.kitOne X.K (.ref (P.CA c)) (.ref (P.CA h)) = some (cl.sub c h)
  subV : ∀ c ∈ P.rz, PySem.W.kitOne X.K (.ref (P.CA c)) (.type "ValueError") = some (cl.sub c 1000)
  exc : ∀ c ∈ P.rz, ExcC X.K (P.CA c) ∧ XfC X.K (P.CA c) ∧ ∀ f ∈ P.flds c, PySem.W.findIn X.K (.ref (P.CA c)) f = some none
  fn : ∀ x f, cf.fnI x = some f → ∃ fa fd, X.mg x = some (.ref fa) ∧ PySem.W.keepIn X.K (.ref fa) = true ∧ FnOk X.prog X.w X.K X.mg X.base (L2.CX X.prog X.w) k fa fd (cf.prm f) (spF X.K P (cf.prm f).length (cl.call f)) ∧ Binds X.K fd (cf.prm f) [] ∧
    ∀ n ks, (n, ks) ∈ cf.shp f → Shp X.K fd (cf.prm f) n ks
  fv : ∀ x f, cf.fvI x = some f → ∃ fa fd, X.mg x = some (.ref fa) ∧ PySem.W.keepIn X.K (.ref fa) = true ∧ FnV X.prog X.w X.K X.mg X.base (L2.CX X.prog X.w) k fa fd (cf.prm f) (spF X.K P (cf.prm f).length (cl.call f)) ∧ BndV X.K fd (cf.prm f) ∧ (cf.prm f).length = 1
theorem Gd.hu {X : Cx} {cf : Cf} {P : Pg} {cl : Cl} {k : Nat} (G : Gd X cf P cl k) : X.A.units + 70 < cLine := by have := G.rm.un; omega
inductive All2 {α β : Type} (R : α → β → Prop) : List α → List β → Prop
  | nil : All2 R [] []
  | cons {a b as bs} : R a b → All2 R as bs → All2 R (a :: as) (b :: bs)
section
variable {X : Cx} {P : Pg} {cl : Cl} {W : WX}
/-- an argument, run -/
def AEx (X : Cx) (P : Pg) (cl : Cl) (W : WX) (c : C) (e : Expr) : Prop := okE e = true ∧ PE X e (tE X.K P cl W c) ∧ PT X e (tT X.K P cl W c)
theorem args_pa : ∀ {cs : List C} {es : List Expr}, All2 (AEx X P cl W) cs es → PA X es (tEsL X.K P cl W cs)
  | _, _, .nil => a_nil
  | _, _, .cons h t => a_cons h.2.1 (args_pa t) (okE_star h.1)
theorem args_len {R : C → Expr → Prop} : ∀ {cs : List C} {es : List Expr}, All2 R cs es → cs.length = es.length
  | _, _, .nil => rfl
  | _, _, .cons h t => by simp [args_len t]
theorem args_plain {pos : Pos} {env : PySem.Env} : ∀ {cs : List C} {es : List Expr}, All2 (AEx X P cl W) cs es → (backTo pos (starEach es env)).any (·.1) = false
  | _, _, .nil => rfl
  | _, _, .cons h t => by
    rw [okE_star h.1]
    show (false || (backTo pos (starEach _ env)).any (·.1)) = false
    rw [args_plain t]; rfl
theorem args_split {R : C → Expr → Prop} : ∀ {cs : List C} (as bs : List Expr), All2 R cs (as ++ bs) → ∃ c1 c2, cs = c1 ++ c2 ∧ All2 R c1 as ∧ All2 R c2 bs
  | cs, [], bs, h => ⟨[], cs, rfl, .nil, h⟩
  | _, a :: as, bs, .cons h t => by
    obtain ⟨c1, c2, e, h1, h2⟩ := args_split as bs t
    exact ⟨_ :: c1, c2, by rw [e]; rfl, .cons h h1, h2⟩
theorem args_pk : ∀ {cs : List C} (kws : List Keyword), All2 (AEx X P cl W) cs (kws.map (·.value)) → PK X kws (tEsL X.K P cl W cs)
  | _, [], .nil => k_nil
  | _, ⟨nm, v, p⟩ :: kws, .cons h t => k_cons h.2.1 (args_pk kws t)
/-- what is shown of an expression -/
structure Run (X : Cx) (P : Pg) (cl : Cl) (W : WX) (c : C) (e : Expr) : Prop where
  pe : PE X e (tE X.K P cl W c)
  pt : PT X e (tT X.K P cl W c)
  pw : ∀ op vs p, e = .BoolOp op vs p → PW X e (tT X.K P cl W c)
theorem Run.of {c : C} {e : Expr} (h : PE X e (tE X.K P cl W c)) (ht : ∀ whole, isTrue e X.env whole = (do let v ← whole; standAt e.pos; holding [v] (truthy v))) (hn : ∀ op vs p, e ≠ .BoolOp op vs p) : Run X P cl W c e :=
  ⟨h, t_of h ht, fun op vs p z => absurd z (hn op vs p)⟩
theorem Run.of2 {c : C} {e : Expr} (h : PE X e (tE X.K P cl W c)) (ht : PT X e (tT X.K P cl W c)) (hn : ∀ op vs p, e ≠ .BoolOp op vs p) : Run X P cl W c e := ⟨h, ht, fun op vs p z => absurd z (hn op vs p)⟩
theorem t_ite {a b c : C} {a' b' c' : Expr} {pos : Pos} (hc : PT X c' (tT X.K P cl W c)) (ha : PT X a' (tT X.K P cl W a)) (hb : PT X b' (tT X.K P cl W b)) : PT X (.IfExp c' a' b' pos) (tT X.K P cl W (.ite c a b)) := by
  refine ⟨fun pins s σ H Q I ⟨S0, LL, ρ, q, e, R, hw, hq, he⟩ => ?_⟩
  have h1 : tT X.K P cl W c σ H fun k H1 => if k = true then tT X.K P cl W a σ H1 Q else tT X.K P cl W b σ H1 Q := by
    refine ⟨S0, LL, ρ, _, e, R, hw, fun d H1 s1 h1 => truR_mono h1 fun k hk => ?_, he⟩
    cases k with
    | true => exact ⟨S0, LL, ρ, _, e, R.same s1, hk, fun d H2 s2 h2 => hq d H2 (sq_ s1 s2) h2, fun k fs cv dx H' s2 x h => he k fs cv dx H' (sq_ s1 s2) x h⟩
    | false => exact ⟨S0, LL, ρ, _, e, R.same s1, hk, fun d H2 s2 h2 => hq d H2 (sq_ s1 s2) h2, fun k fs cv dx H' s2 x h => he k fs cv dx H' (sq_ s1 s2) x h⟩
  show wpAny _ _ (do if ← isTrue c' X.env (eval c' X.env) then isTrue a' X.env (eval a' X.env) else isTrue b' X.env (eval b' X.env)) _ _ _
  refine wpAny_bind (thn (hc.run pins s σ H _ I h1) fun k s1 ⟨H1, I1, q1⟩ => ?_)
  cases k with
  | true => exact ha.run pins s1 σ H1 Q I1 q1
  | false => exact hb.run pins s1 σ H1 Q I1 q1
end
theorem mIx0 : True := trivial

section
variable {cf : Cf} {P : Pg} {k : Nat} {cl : Cl}
theorem Gd.blk {X : Cx} (G : Gd X cf P cl k) (s : Shared) (H : Hp) (scope : Scope) (cenv : PySem.Env) (fp : List Addr) : Gd (X.blk s H scope cenv fp) cf P cl k := ⟨G.eN, G.nd, G.calm, G.rm, G.xa, G.bi, G.k2, G.xc, G.rzE, G.made, G.fl, G.sub, G.subV, G.exc, G.fn, G.fv⟩
theorem takes0 {X : Cx} {s : Shared} {H : Hp} {scope : Scope} {cenv : PySem.Env} {fp : List Addr} : Takes (X.blk s H scope cenv fp) W0 := fun u s' ⟨a, B, sI, pins, σ, H', cls, d, e, I, nb, up, sky, na, os, ag, w⟩ => w
theorem Gd.b {X : Cx} (G : Gd X cf P cl k) {x : Str} (h : x ∈ biNames) : X.mg x = none := G.bi x h
theorem vis_ {X : Cx} {sc : Scope} {x : Str} (h : isL sc x = true) (e : X.env.scope = sc) : Vis X.env.scope x := vis_of h e
theorem bne_ {x y : Str} (h : x ≠ y) : (x == y) = false := by simpa using h
/-- the lookups of a block's names -/
theorem relS_local : ∀ {names : List (Str × NameKind)} {sc : Scope} {x : Str}, names.lookup x = some .local → (names.map fun (n, k) => if (k == NameKind.free && sc.kind == .function && sc.names.lookup n == some .cell) then (n, NameKind.cell) else (n, k)).lookup x = some .local
  | [], _, _, h => by simp at h
  | (n, k) :: r, sc, x, h => by
    rw [List.lookup_cons] at h
    rw [List.map_cons]
    by_cases e : x == n
    · rw [e] at h
      simp only at h
      cases h
      simp only [show (NameKind.local == NameKind.free) = false from rfl, Bool.false_and, Bool.false_eq_true, if_false]
      rw [List.lookup_cons, e]
    · have e' : (x == n) = false := by simpa using e
      rw [e'] at h
      have ih := relS_local (sc := sc) (x := x) h
      rw [List.lookup_cons]
      have e1 : (if (k == NameKind.free && sc.kind == .function && sc.names.lookup n == some .cell) = true then (n, NameKind.cell) else (n, k)).1 = n := by split <;> rfl
      show (match x == (if (k == NameKind.free && sc.kind == .function && sc.names.lookup n == some .cell) = true then (n, NameKind.cell) else (n, k)).1 with
        | true => _
        | false => _) = _
      rw [e1, e']
      exact ih
theorem relS_cell : ∀ {names : List (Str × NameKind)} {sc : Scope} {x : Str}, names.lookup x = some .cell → (names.map fun (n, k) => if (k == NameKind.free && sc.kind == .function && sc.names.lookup n == some .cell) then (n, NameKind.cell) else (n, k)).lookup x = some .cell
  | [], _, _, h => by simp at h
  | (n, k) :: r, sc, x, h => by
    rw [List.lookup_cons] at h
    rw [List.map_cons]
    by_cases e : x == n
    · rw [e] at h
      simp only at h
      cases h
      simp only [show (NameKind.cell == NameKind.free) = false from rfl, Bool.false_and, Bool.false_eq_true, if_false]
      rw [List.lookup_cons, e]
    · have e' : (x == n) = false := by simpa using e
      rw [e'] at h
      have ih := relS_cell (sc := sc) (x := x) h
      rw [List.lookup_cons]
      have e1 : (if (k == NameKind.free && sc.kind == .function && sc.names.lookup n == some .cell) = true then (n, NameKind.cell) else (n, k)).1 = n := by split <;> rfl
      show (match x == (if (k == NameKind.free && sc.kind == .function && sc.names.lookup n == some .cell) = true then (n, NameKind.cell) else (n, k)).1 with
        | true => _
        | false => _) = _
      rw [e1, e']
      exact ih
theorem at_blk {X : Cx} {s : Shared} {H : Hp} {osc : Scope} {C : Addr} {cl : List (Str × Addr)} {fp : List Addr} : At (X.blk s H osc (compEnvC osc cl C X.env) fp) osc := ⟨fun x h => by
  unfold isSt at h
  split at h
  · rename_i e
    have q := relS_local (sc := X.env.scope) e
    exact ⟨.inl q, .inr q⟩
  · rename_i e
    have q := relS_cell (sc := X.env.scope) e
    refine ⟨.inr q, .inl ?_⟩
    show (osc.names.lookup x == some NameKind.cell) = true
    rw [e]; rfl
  · cases h⟩
end
end Uq

set_option maxHeartbeats 2000000
/-! Uq, part m: every checked expression runs as its core term says. -/
namespace Uq
open PySem PySem.Spec PyProof.Rows L2
section
variable {cf : Cf} {P : Pg} {k : Nat} {cl : Cl}
theorem false_pe {X : Cx} {W : WX} {e : Expr} {c : C} (h : ∀ S0 LL ρ q E σ H, Rel X.K P S0 LL ρ σ H → ¬ wE cl c ρ q E) : PE X e (tE X.K P cl W c) ∧ PT X e (tT X.K P cl W c) ∧ PW X e (tT X.K P cl W c) :=
  ⟨⟨fun pins s σ H Q I ⟨S0, LL, ρ, q, e, R, hw, _⟩ => absurd hw (h _ _ _ _ _ _ _ R)⟩, ⟨fun pins s σ H Q I ⟨S0, LL, ρ, q, e, R, hw, _⟩ => absurd hw (h _ _ _ _ _ _ _ R)⟩, ⟨fun wh pins s σ H Q I ⟨S0, LL, ρ, q, e, R, hw, _⟩ => absurd hw (h _ _ _ _ _ _ _ R)⟩⟩
theorem no_xc {K : PySem.W.Frag} {S0 : Addr → Prop} {LL : Ow} {ρ : Env} {σ : L2.St} {H : Hp} (xz : P.xa = xa0) (R : Rel K P S0 LL ρ σ H) {i c : Nat} {fs : List D} : ρ[i]? ≠ some (.xc c fs) := fun e => by
  obtain ⟨_, a, dd, vs, _, x, _⟩ := R.slot i _ e
  rw [xz] at x
  exact x.elim
theorem tgNames_map {osc : Scope} {t : Tg} {e : Expr} (h : chkTg cf osc t e = true) : (tgNames t e).map (·.2) = tgI t := by
  have key : ∀ (is : List Nat) (es : List Expr), chkNms cf osc is es = true → ((es.zip is).map fun p => match p.1 with
    | .Name x _ => (x, p.2)
    | _ => (Str.empty, p.2)).map (·.2) = is := fun is => by
    induction is with
    | nil => intro es h; cases es <;> first | rfl | cases h
    | cons i is ih =>
      intro es h
      cases es with
      | nil => cases h
      | cons e es =>
        simp only [chkNms, Bool.and_eq_true] at h
        rw [List.zip_cons_cons, List.map_cons, List.map_cons, ih es h.2]
        congr 1
        split <;> rfl
  unfold chkTg at h
  split at h
  · unfold chkNm at h
    split at h
    · rfl
    · cases h
  · simp only [Bool.and_eq_true] at h
    exact key _ _ h.1.1
  · cases h
theorem okE_hs {e : Expr} (h : okE e = true) {env : PySem.Env} : starEach [e] env = [(false, eval e env)] := okE_star h
/-- walks -/
theorem s_it {X : Cx} {W : WX} (G : Gd X cf P cl k) {sc : Scope} (eS : X.env.scope = sc) {kd : IK} {cs : List C} {it tg : Expr} {t : Tg} {osc : Scope} (ht : chkTg cf osc t tg = true) (hen : enTp kd t = true) {ks : List Expr → Bool}
    (hks : ∀ es, ks es = true → All2 (AEx X P cl W) cs es) (h : mIt sc kd ks it = true) : PI X tg it (tI X.K P cl W kd cs) := by
  unfold mIt at h
  split at h
  · have z := hks _ h
    cases z with
    | cons z zz =>
      cases zz
      exact i_val z.2.1
  · simp only [Bool.and_eq_true, decide_eq_true_eq] at h
    obtain ⟨h1, h2, h3⟩ := h
    rename_i x p as q hne
    have z := hks _ h3
    have hl := args_len z
    cases kd <;> simp only [ikN, Option.some.injEq, Prod.mk.injEq, reduceCtorEq] at h1
    · obtain ⟨rfl, h1⟩ := h1
      match as, h1, z with
      | [a], _, .cons z zz =>
        cases zz
        exact i_rng1 (gl_of h2 eS) (G.b (by decide)) (args_pa (.cons z .nil)) (okE_star z.1)
    · obtain ⟨rfl, h1⟩ := h1
      match as, h1, z with
      | [a, b], _, .cons z (.cons z2 zz) =>
        cases zz
        exact i_rng2 (gl_of h2 eS) (G.b (by decide)) (args_pa (.cons z (.cons z2 .nil))) (by rw [okE_star z.1, okE_star z2.1]; rfl) (okE_star z2.1)
    · obtain ⟨rfl, h1⟩ := h1
      match as, h1, z with
      | [a], _, .cons z zz =>
        cases zz
        cases t with
        | nm i => cases hen
        | tp is =>
          unfold chkTg at ht
          split at ht
          · rename_i e; cases e
          · exact i_enum (gl_of h2 eS) (G.b (by decide)) (args_pa (.cons z .nil)) (okE_star z.1)
          · cases ht
  · cases h
/-- a call of a def with a star -/
theorem s_callv {X : Cx} {W : WX} (G : Gd X cf P cl k) (tk : Takes X W) {sc : Scope} (eS : X.env.scope = sc) {f : Nat} {cs : List C} {e : Expr} {ks : List Expr → Bool} (hks : ∀ es, ks es = true → All2 (AEx X P cl W) cs es)
    (h : mCallV cf sc f cs.length ks e = true) : Run X P cl W (.callv f cs) e := by
  unfold mCallV at h
  split at h
  · rename_i x p as pos
    simp only [Bool.and_eq_true, decide_eq_true_eq, Bool.not_eq_true', decide_eq_false_iff_not] at h
    obtain ⟨h1, h2, h3, h4, h5⟩ := h
    obtain ⟨fa, fd, m1, m2, m3, m4, m5⟩ := G.fv x f h1
    have z := hks _ h5
    refine Run.of ?_ (fun _ => rfl) fun op vs p q => by cases q
    cases z with
    | nil => exact e_callv0 m3 tk G.rm (gl_of h2 eS) m1 m2 m4 m5 (bne_ h3)
    | cons z zz => exact e_callv m3 tk G.rm (gl_of h2 eS) m1 m2 m4 m5 h4 (args_pa (.cons z zz)) (bne_ h3) (okE_star z.1) (args_plain zz)
  · cases h
/-- a call of a def -/
theorem s_call {X : Cx} {W : WX} (G : Gd X cf P cl k) (tk : Takes X W) {sc : Scope} (eS : X.env.scope = sc) {f : Nat} {pm : List Nat} {cs : List C} {e : Expr} {ks : List Expr → Bool} (hks : ∀ es, ks es = true → All2 (AEx X P cl W) cs es)
    (h : mCall cf sc f pm cs.length ks e = true) : Run X P cl W (.call f pm cs) e := by
  unfold mCall at h
  split at h
  · rename_i x p as kws pos
    simp only [Bool.and_eq_true, decide_eq_true_eq, Bool.not_eq_true', decide_eq_false_iff_not] at h
    obtain ⟨h1, h2, h3, h4, h5, h6⟩ := h
    obtain ⟨fa, fd, m1, m2, m3, m4, m5⟩ := G.fn x f h1
    have z := hks _ h4
    refine Run.of ?_ (fun _ => rfl) fun op vs p q => by cases q
    unfold mShape at h6
    split at h6
    · simp only [List.map_nil, List.append_nil] at z
      simp only [decide_eq_true_eq] at h6
      cases z with
      | nil => exact e_call0 m3 tk G.rm (gl_of h2 eS) m1 m2 m4 h6 (bne_ h3)
      | cons z zz => exact e_call m3 tk G.rm (gl_of h2 eS) m1 m2 m4 h6 (args_pa (.cons z zz)) (bne_ h3) (okE_star z.1) (args_plain zz)
    · cases h6
    · rename_i hne1 hne2
      simp only [Bool.and_eq_true, decide_eq_true_eq] at h6
      obtain ⟨rfl, h7⟩ := h6
      have hp : pmOf (cf.prm f) as.length (kwNames kws) ≠ [] := fun e => hne1 e
      obtain ⟨c1, c2, rfl, z1, z2⟩ := args_split as _ z
      cases as with
      | nil =>
        cases z1
        exact e_callK0 m3 tk G.rm (gl_of h2 eS) m1 m2 (m5 _ _ h7) ((args_len z2).trans (by simp [kwNames])) hp (args_pk kws z2) h5 rfl (bne_ h3)
      | cons a as =>
        cases z1 with
        | cons z zz => exact e_callK (e0 := a) m3 tk G.rm (gl_of h2 eS) m1 m2 (m5 _ _ h7) (args_len (.cons z zz)) ((args_len z2).trans (by simp [kwNames])) hp (args_pa (.cons z zz)) (args_pk kws z2) h5 rfl (bne_ h3) (okE_star z.1) (args_plain (.cons z zz))
  · cases h
/-- a built-in -/
theorem s_bi {X : Cx} {W : WX} (G : Gd X cf P cl k) (tk : Takes X W) {sc : Scope} (eS : X.env.scope = sc) {f : Bi} {cs : List C} {e : Expr} {ks : List Expr → Bool} (hks : ∀ es, ks es = true → All2 (AEx X P cl W) cs es)
    (h : mBi sc f cs.length ks e = true) : Run X P cl W (.bi f cs) e := by
  have one : ∀ x, biN f = some x → mBi0 sc f ks e = true → (∃ id, CallR X (.builtin id) (rBi X.K f) ∧ bootBuiltins x = some (.builtin id)) ∨ (∃ T, CallR X (.type T) (rBi X.K f) ∧ bootBuiltins x = some (.type T)) → x ∈ biNames → x ≠ "__name__" → x ≠ "__debug__" → Run X P cl W (.bi f cs) e := by
    intro x hx h hc hmem hn hd
    unfold mBi0 at h
    split at h
    · rename_i x' p as q
      simp only [Bool.and_eq_true, decide_eq_true_eq] at h
      obtain ⟨h1, h2, h3⟩ := h
      rw [hx] at h1
      cases h1
      have z := hks _ h3
      refine Run.of ?_ (fun _ => rfl) fun op vs p q => by cases q
      cases z with
      | nil => exact e_bi0
      | cons z zz =>
        rcases hc with ⟨id, hc, hb⟩ | ⟨T, hc, hb⟩
        · exact e_biB hc (gl_of h2 eS) (G.b hmem) hb (args_pa (.cons z zz)) hn (bne_ hd) (okE_star z.1) (args_plain zz)
        · exact e_biT hc (gl_of h2 eS) (G.b hmem) hb (args_pa (.cons z zz)) hn (bne_ hd) (okE_star z.1) (args_plain zz)
    · cases h
  have hc := G.calm
  have hu := G.hu
  cases f <;> simp only [mBi, Bool.false_eq_true] at h
  · exact one "len" rfl h (.inl ⟨_, bi_len, by decide +kernel⟩) (by decide) (by decide) (by decide)
  · exact one "abs" rfl h (.inl ⟨_, bi_abs, by decide +kernel⟩) (by decide) (by decide) (by decide)
  · exact one "int" rfl h (.inr ⟨_, bi_int, by decide +kernel⟩) (by decide) (by decide) (by decide)
  · exact one "bool" rfl h (.inr ⟨_, bi_bool, by decide +kernel⟩) (by decide) (by decide) (by decide)
  · exact one "max" rfl h (.inl ⟨_, bi_max hc, by decide +kernel⟩) (by decide) (by decide) (by decide)
  · exact one "min" rfl h (.inl ⟨_, bi_min hc, by decide +kernel⟩) (by decide) (by decide) (by decide)
  · simp only [Bool.and_eq_true, decide_eq_true_eq] at h
    obtain ⟨h, hn⟩ := h
    unfold mDef at h
    split at h
    · simp only [Bool.and_eq_true, decide_eq_true_eq] at h
      obtain ⟨rfl, rfl, h3, h4⟩ := h
      have z := hks _ h4
      match cs, hn, z with
      | [_, _], _, .cons z (.cons z2 _) => exact Run.of (e_maxd hc hu (gl_of h3 eS) (G.b (by decide)) z.2.1 z.1 z2.2.1) (fun _ => rfl) fun op vs p q => by cases q
    · cases h
  · exact one "sum" rfl h (.inl ⟨_, bi_sum hc, by decide +kernel⟩) (by decide) (by decide) (by decide)
  · exact one "tuple" rfl h (.inr ⟨_, bi_tuple, by decide +kernel⟩) (by decide) (by decide) (by decide)
  · exact one "list" rfl h (.inr ⟨_, bi_list, by decide +kernel⟩) (by decide) (by decide) (by decide)
  · exact one "sorted" rfl h (.inl ⟨_, bi_sorted hu, by decide +kernel⟩) (by decide) (by decide) (by decide)
  · exact one "any" rfl h (.inl ⟨_, bi_any hc, by decide +kernel⟩) (by decide) (by decide) (by decide)
  · exact one "all" rfl h (.inl ⟨_, bi_all hc, by decide +kernel⟩) (by decide) (by decide) (by decide)
  · unfold mBits at h
    split at h
    · simp only [Bool.and_eq_true, decide_eq_true_eq] at h
      obtain ⟨rfl, h2, h3, h4⟩ := h
      have z := hks _ h2
      cases z with
      | cons z zz =>
        cases zz
        refine Run.of (e_bits z.2.1 ?_ h3) (fun _ => rfl) fun op vs p q => by cases q
        unfold notCall0 at h4
        split at h4
        · cases h4
        · rename_i o _ _ _ hne
          unfold attributeBase
          split
          · rename_i id p2 p3
            exact absurd rfl (hne id p2 p3)
          · rfl
    · cases h
  · simp only [Bool.and_eq_true, decide_eq_true_eq] at h
    obtain ⟨h, hn⟩ := h
    unfold mIn at h
    split at h
    · rename_i x' _ y' _ as p1 p2
      simp only [Bool.and_eq_true, decide_eq_true_eq] at h
      obtain ⟨rfl, rfl, h3, h4, h5⟩ := h
      have z := hks _ h5
      cases z with
      | nil => simp at hn
      | cons z zz =>
        cases zz with
        | cons _ _ => simp at hn
        | nil =>
          refine Run.of ?_ (fun _ => rfl) fun op vs p q => by cases q
          exact e_sset G.calm (by have := G.hu; omega) (gl_of h3 eS) (G.b (by decide)) (gl_of h4 eS) (G.b (by decide)) z.2.1 z.1
    · cases h
  · simp only [Bool.and_eq_true, decide_eq_true_eq] at h
    obtain ⟨h, hn⟩ := h
    unfold mIn at h
    split at h
    · rename_i x' _ y' _ as p1 p2
      simp only [Bool.and_eq_true, decide_eq_true_eq] at h
      obtain ⟨rfl, rfl, h3, h4, h5⟩ := h
      have z := hks _ h5
      match cs, as, z, hn with
      | [c1, c2], [a1, a2], .cons z1 (.cons z2 .nil), _ =>
        refine Run.of ?_ (fun _ => rfl) fun op vs p q => by cases q
        exact e_lrng2 G.calm (gl_of h3 eS) (G.b (by decide)) (gl_of h4 eS) (G.b (by decide)) z1.2.1 z2.2.1 z1.1 z2.1
    · cases h
  · exact one "divmod" rfl h (.inl ⟨_, bi_divmod, by decide +kernel⟩) (by decide) (by decide) (by decide)
/-- a dict's key -/
theorem s_key {X : Cx} {W : WX} {t : Bool} {cs : List C} {e : Expr} {ks : List Expr → Bool} (hks : ∀ es, ks es = true → All2 (AEx X P cl W) cs es) (h : mKey t cs.length ks e = true) : PE X e (tKey X.K P cl W t cs) := by
  unfold mKey at h
  split at h
  · simp only [Bool.and_eq_true, decide_eq_true_eq] at h
    exact key_tup h.2 (args_pa (hks _ h.1))
  · simp only [Bool.and_eq_true, decide_eq_true_eq] at h
    have z := hks _ h.1
    cases z with
    | cons z zz =>
      cases zz
      exact key_one z.2.1
  · cases h
theorem nm_of {X : Cx} {sc : Scope} (G : Gd X cf P cl k) (eS : X.env.scope = sc) {i : Nat} {e : Expr} (h : mNm cf sc i e = true) : ∃ x p, e = .Name x p ∧ X.N[i]? = some x ∧ Vis X.env.scope x ∧ (x == ("__debug__" : Str)) = false ∧ (x == ("__classdict__" : Str)) = false := by
  unfold mNm at h
  split at h
  · simp only [Bool.and_eq_true, decide_eq_true_eq, Bool.not_eq_true', decide_eq_false_iff_not] at h
    obtain ⟨h1, h2, h3, h4⟩ := h
    exact ⟨_, _, rfl, by rw [G.eN]; exact h1, vis_of h2 eS, bne_ h3, bne_ h4⟩
  · cases h
/-- what is asked of a dict -/
theorem s_dq {X : Cx} {W : WX} (G : Gd X cf P cl k) {sc : Scope} (eS : X.env.scope = sc) {o : Dq} {t : Bool} {i : Nat} {cs ds : List C} {e : Expr} {ks kd : List Expr → Bool} (hks : ∀ es, ks es = true → All2 (AEx X P cl W) cs es) (hkd : ∀ es, kd es = true → All2 (AEx X P cl W) ds es)
    (h : mDq cf sc o t i cs.length ds.length ks kd e = true) : Run X P cl W (.dq o t cs i ds) e := by
  have hu : X.A.units + 1 < cLine := by have := G.hu; omega
  unfold mDq at h
  split at h
  · rename_i n a op d pos
    simp only [Bool.and_eq_true] at h
    obtain ⟨h1, h2, h3, h4⟩ := h
    have eo : op = if n = true then .NotIn else .In := by
      unfold inOp at h1
      split at h1 <;> first | (cases n <;> first | rfl | cases h1) | cases h1
    obtain ⟨x, p, rfl, n1, n2, n3, n4⟩ := nm_of G eS h3
    rw [eo]
    have ka := s_key hks h2
    refine Run.of2 (e_dmem hu n1 n2 n3 n4 ka) ?_ fun op vs p q => by cases q
    refine ptI (pt_cmp (pc_dmem hu n1 n2 n3 n4 ka) (by cases n <;> rfl)) fun σ H Q ⟨S0, LL, ρ, q, e, R, hw, hq, he⟩ => ?_
    exact dmem_read (Q := fun x H' => ∃ k, x = .bl k ∧ Q k H') R hw he fun k H' s h => ⟨k, rfl, hq _ H' s h⟩
  · rename_i d a pos
    simp only [Bool.and_eq_true] at h
    obtain ⟨h1, h2, h3⟩ := h
    obtain ⟨x, p, rfl, n1, n2, n3, n4⟩ := nm_of G eS h1
    exact Run.of (e_dget hu n1 n2 n3 n4 (s_key hks h2) (NoSl.of h3)) (fun _ => rfl) fun op vs p q => by cases q
  · rename_i d g ap a v cp
    simp only [Bool.and_eq_true, decide_eq_true_eq] at h
    obtain ⟨rfl, h1, h2, h3, h4, h5, h6⟩ := h
    obtain ⟨x, p, rfl, n1, n2, n3, n4⟩ := nm_of G eS h1
    have z := hkd _ h4
    match ds, z with
    | [dd], .cons z .nil => exact Run.of (e_dgetd hu n1 n2 n3 n4 (s_key hks h2) h3 z.2.1 z.1 h6) (fun _ => rfl) fun op vs p q => by cases q
  · cases h
mutual
theorem sC : ∀ (c : C) {X : Cx} {W : WX} {sc : Scope} {e : Expr}, Gd X cf P cl k → Takes X W → X.env.scope = sc → chkE cf c sc e = true → Run X P cl W c e
  | .var i, X, W, sc, e, G, tk, eS, h => by
    simp only [chkE] at h
    unfold mVar at h
    split at h
    · simp only [Bool.and_eq_true, decide_eq_true_eq, Bool.not_eq_true', decide_eq_false_iff_not] at h
      obtain ⟨⟨⟨h1, h2⟩, h3⟩, h4⟩ := h
      exact Run.of (e_var (by rw [G.eN]; exact h1) (vis_of h2 eS) (bne_ h3) (bne_ h4)) (fun _ => rfl) fun op vs p q => by cases q
    · cases h
  | .non, X, W, sc, e, G, tk, eS, h => by
    simp only [chkE] at h
    unfold mNon at h
    split at h
    · exact Run.of e_non (fun _ => rfl) fun op vs p q => by cases q
    · cases h
  | .bl b, X, W, sc, e, G, tk, eS, h => by
    simp only [chkE] at h
    unfold mBl at h
    split at h
    · obtain rfl := of_decide_eq_true h
      exact Run.of e_bl (fun _ => rfl) fun op vs p q => by cases q
    · cases h
  | .int i, X, W, sc, e, G, tk, eS, h => by
    simp only [chkE] at h
    unfold mInt at h
    split at h
    · obtain rfl := of_decide_eq_true h
      exact Run.of e_int (fun _ => rfl) fun op vs p q => by cases q
    · cases h
  | .str x, X, W, sc, e, G, tk, eS, h => by
    simp only [chkE] at h
    unfold mStr at h
    split at h
    · obtain rfl := of_decide_eq_true h
      exact Run.of e_str (fun _ => rfl) fun op vs p q => by cases q
    · cases h
  | .bin o a b, X, W, sc, e, G, tk, eS, h => by
    simp only [chkE] at h
    unfold mBin at h
    split at h
    · simp only [Bool.and_eq_true] at h
      obtain ⟨h1, h2, h3⟩ := h
      rw [opB_to h1]
      exact Run.of (e_bin (sC a G tk eS h2).pe (sC b G tk eS h3).pe) (fun _ => rfl) fun op vs p q => by cases q
    · cases h
  | .neg a, X, W, sc, e, G, tk, eS, h => by
    simp only [chkE] at h
    unfold mNeg at h
    split at h
    · exact Run.of (e_neg (sC a G tk eS h).pe) (fun _ => rfl) fun op vs p q => by cases q
    · cases h
  | .not a, X, W, sc, e, G, tk, eS, h => by
    simp only [chkE] at h
    unfold mNot at h
    split at h
    · exact Run.of2 (e_not (sC a G tk eS h).pe) (t_not (sC a G tk eS h).pt) fun op vs p q => by cases q
    · cases h
  | .and a b, X, W, sc, e, G, tk, eS, h => by
    simp only [chkE] at h
    unfold mAnd at h
    split at h
    · simp only [Bool.and_eq_true] at h
      obtain ⟨h1, h2⟩ := h
      have ra := sC a G tk eS h1
      rename_i x y r p
      have rb : PE X (.BoolOp .And (y :: r) p) (tE X.K P cl W b) ∧ PW X (.BoolOp .And (y :: r) p) (tT X.K P cl W b) := by
        unfold mRest at h2
        split at h2
        · have rb := sC b G tk eS h2
          exact ⟨pe_one rb.pe, pw_and1 rb.pt⟩
        · have rb := sC b G tk eS h2
          exact ⟨rb.pe, rb.pw _ _ _ rfl⟩
      have w := t_and ra.pt rb.2
      exact ⟨e_and ra.pe rb.1, w.pt, fun op vs p q => by cases q; exact w⟩
    · cases h
  | .or a b, X, W, sc, e, G, tk, eS, h => by
    simp only [chkE] at h
    unfold mOr at h
    split at h
    · simp only [Bool.and_eq_true] at h
      obtain ⟨h1, h2⟩ := h
      have ra := sC a G tk eS h1
      rename_i x y r p
      have rb : PE X (.BoolOp .Or (y :: r) p) (tE X.K P cl W b) ∧ PW X (.BoolOp .Or (y :: r) p) (tT X.K P cl W b) := by
        unfold mRest at h2
        split at h2
        · have rb := sC b G tk eS h2
          exact ⟨pe_one rb.pe, pw_or1 rb.pt⟩
        · have rb := sC b G tk eS h2
          exact ⟨rb.pe, rb.pw _ _ _ rfl⟩
      have w := t_or ra.pt rb.2
      exact ⟨e_or ra.pe rb.1, w.pt, fun op vs p q => by cases q; exact w⟩
    · cases h
  | .cmp o a b, X, W, sc, e, G, tk, eS, h => by
    simp only [chkE] at h
    unfold mCmp at h
    split at h
    · simp only [Bool.and_eq_true] at h
      obtain ⟨h1, h2, h3⟩ := h
      rw [opC_to h1]
      have hu : X.A.units + 64 < cLine := by have := G.hu; omega
      exact Run.of2 (e_cmp hu (sC a G tk eS h2).pe (sC b G tk eS h3).pe) (t_cmp hu (sC a G tk eS h2).pe (sC b G tk eS h3).pe) fun op vs p q => by cases q
    · cases h
  | .chn o o2 a b c, X, W, sc, e, G, tk, eS, h => by
    simp only [chkE] at h
    unfold mChn at h
    split at h
    · simp only [Bool.and_eq_true] at h
      obtain ⟨h1, h2, h3, h4, h5, h6⟩ := h
      rw [opC_to h1, opC_to h2]
      have hu : X.A.units + 64 < cLine := by have := G.hu; omega
      exact Run.of2 (e_chn hu (sC a G tk eS h3).pe (sC b G tk eS h4).pe (sC c G tk eS h5).pe (okE_marks h6)) (t_chn hu (sC a G tk eS h3).pe (sC b G tk eS h4).pe (sC c G tk eS h5).pe (okE_marks h6)) fun op vs p q => by cases q
    · cases h
  | .chn3 o o2 o3 a b c d, X, W, sc, e, G, tk, eS, h => by
    simp only [chkE] at h
    unfold mChn3 at h
    split at h
    · simp only [Bool.and_eq_true] at h
      obtain ⟨h1, h2, h3, h4, h5, h6, h7, h8, h9⟩ := h
      rw [opC_to h1, opC_to h2, opC_to h3]
      have hu : X.A.units + 64 < cLine := by have := G.hu; omega
      exact Run.of2 (e_chn3 hu (sC a G tk eS h4).pe (sC b G tk eS h5).pe (sC c G tk eS h6).pe (sC d G tk eS h8).pe (okE_marks h9)) (t_chn3 hu (sC a G tk eS h4).pe (sC b G tk eS h5).pe (sC c G tk eS h6).pe (sC d G tk eS h8).pe (okE_marks h9)) fun op vs p q => by cases q
    · cases h
  | .ixo i b, X, W, sc, e, G, tk, eS, h => by
    simp only [chkE] at h
    unfold mIxo at h
    split at h
    · simp only [Bool.and_eq_true, decide_eq_true_eq, Bool.not_eq_true', decide_eq_false_iff_not] at h
      obtain ⟨h1, h2, h3, h4, h5, h6⟩ := h
      exact Run.of (e_ixo (by rw [G.eN]; exact h3) (vis_of h4 eS) (bne_ h5) (bne_ h6) (sC b G tk eS h2).pe (okE_ix h1)) (fun _ => rfl) fun op vs p q => by cases q
    · cases h
  | .dq o t cs i ds, X, W, sc, e, G, tk, eS, h => s_dq G eS (fun es h => sCs cs G tk eS h) (fun es h => sCs ds G tk eS h) (by simpa only [chkE] using h)
  | .ssc e0 t kd cs, X, W, sc, e, G, tk, eS, h => by
    simp only [chkE] at h
    unfold mSsc at h
    split at h
    · simp only [Bool.and_eq_true, decide_eq_true_eq] at h
      obtain ⟨rfl, h2, rfl, h4, h5, h6, h7, h8, h9⟩ := h
      refine Run.of (e_ssc (own := tgNames t _) G.calm (by have := G.hu; omega) G.nd (gl_of h2 eS) (G.b (by decide)) (s_it (t := t) G eS h6 h4 (fun es h => sCs cs G tk eS h) h8) (blkOk_by (by rw [G.eN, eS]; exact h7)) (tgNames_map h6) (fun s H C cl' fp => pg_tg (cf := cf) G.calm G.nd G.eN at_blk h6) (fun s H C cl' fp => ?_) (okE_fold h9)) (fun _ => rfl) fun op vs p q => by cases q
      exact (sC e0 (G.blk s H _ (compEnvC _ cl' C X.env) fp) takes0 (show _ = relS _ sc by rw [← eS]; rfl) h5).pe
    · cases h
  | .isN n a, X, W, sc, e, G, tk, eS, h => by
    simp only [chkE] at h
    unfold mIsN at h
    split at h
    · simp only [Bool.and_eq_true] at h
      obtain ⟨h1, h2⟩ := h
      have ra := (sC a G tk eS h2).pe
      rename_i o j p1 p2
      have eo : o = if n = true then .IsNot else .Is := by
        unfold isOp at h1
        split at h1 <;> first | (cases n <;> first | rfl | cases h1) | cases h1
      rw [eo]
      exact Run.of2 (e_isN ra) (t_isN ra) fun op vs p q => by cases q
    · cases h
  | .isB n b a, X, W, sc, e, G, tk, eS, h => by
    simp only [chkE] at h
    unfold mIsB at h
    split at h
    · simp only [Bool.and_eq_true, decide_eq_true_eq] at h
      obtain ⟨rfl, h1, h2⟩ := h
      have ra := (sC a G tk eS h2).pe
      rename_i o j p1 p2
      have eo : o = if n = true then .IsNot else .Is := by
        unfold isOp at h1
        split at h1 <;> first | (cases n <;> first | rfl | cases h1) | cases h1
      rw [eo]
      exact Run.of2 (e_isB ra) (t_isB ra) fun op vs p q => by cases q
    · cases h
  | .mem n a b, X, W, sc, e, G, tk, eS, h => by
    simp only [chkE] at h
    unfold mMem at h
    split at h
    · simp only [Bool.and_eq_true] at h
      obtain ⟨h1, h2, h3, h4⟩ := h
      have hu : X.A.units + 66 < cLine := by have := G.hu; omega
      rename_i a' o b' p1
      have eo : o = if n = true then .NotIn else .In := by
        unfold inOp at h1
        split at h1 <;> first | (cases n <;> first | rfl | cases h1) | cases h1
      rw [eo]
      exact Run.of2 (e_mem hu (sC a G tk eS h2).pe (sC b G tk eS h3).pe (okE_marks h4)) (t_mem hu (sC a G tk eS h2).pe (sC b G tk eS h3).pe (okE_marks h4)) fun op vs p q => by cases q
    · cases h
  | .ite c a b, X, W, sc, e, G, tk, eS, h => by
    simp only [chkE] at h
    unfold mIte at h
    split at h
    · simp only [Bool.and_eq_true] at h
      obtain ⟨h1, h2, h3⟩ := h
      exact Run.of2 (e_ite (sC c G tk eS h1).pt (sC a G tk eS h2).pe (sC b G tk eS h3).pe) (t_ite (sC c G tk eS h1).pt (sC a G tk eS h2).pt (sC b G tk eS h3).pt) fun op vs p q => by cases q
    · cases h
  | .tup cs, X, W, sc, e, G, tk, eS, h => by
    simp only [chkE] at h
    unfold mTup at h
    split at h
    · simp only [Bool.and_eq_true, decide_eq_true_eq] at h
      exact Run.of (e_tup h.2 (args_pa (sCs cs G tk eS h.1))) (fun _ => rfl) fun op vs p q => by cases q
    · cases h
  | .lst cs, X, W, sc, e, G, tk, eS, h => by
    simp only [chkE] at h
    unfold mLst at h
    split at h
    · simp only [Bool.and_eq_true, decide_eq_true_eq] at h
      exact Run.of (e_lst h.2 (args_pa (sCs cs G tk eS h.1))) (fun _ => rfl) fun op vs p q => by cases q
    · cases h
  | .ix a b, X, W, sc, e, G, tk, eS, h => by
    simp only [chkE] at h
    unfold mIx at h
    split at h
    · simp only [Bool.and_eq_true] at h
      obtain ⟨h1, h2, h3⟩ := h
      exact Run.of (e_ix (sC a G tk eS h2).pe (sC b G tk eS h3).pe (okE_ix h1)) (fun _ => rfl) fun op vs p q => by cases q
    · cases h
  | .sl a b c, X, W, sc, e, G, tk, eS, h => by
    simp only [chkE] at h
    unfold mSl at h
    split at h
    · simp only [Bool.and_eq_true] at h
      obtain ⟨h1, h2, h3⟩ := h
      rename_i a' lo hi p2 p3
      have o1 : PO X lo (tO X.K P cl W b) := by
        unfold mOpt at h2
        split at h2
        · exact o_none h2
        · simp only [Bool.and_eq_true, Bool.not_eq_true'] at h2
          exact o_some h2.2 (sC b G tk eS h2.1).pe
      have o2 : PO X hi (tO X.K P cl W c) := by
        unfold mOpt at h3
        split at h3
        · exact o_none h3
        · simp only [Bool.and_eq_true, Bool.not_eq_true'] at h3
          exact o_some h3.2 (sC c G tk eS h3.1).pe
      exact Run.of (e_sl (sC a G tk eS h1).pe o1 o2) (fun _ => rfl) fun op vs p q => by cases q
    · cases h
  | .rev a, X, W, sc, e, G, tk, eS, h => by
    simp only [chkE] at h
    unfold mRev at h
    split at h
    · exact Run.of (e_back (sC a G tk eS h).pe) (fun _ => rfl) fun op vs p q => by cases q
    · cases h
  | .call f pm cs, X, W, sc, e, G, tk, eS, h => s_call G tk eS (fun es h => sCs cs G tk eS h) (by simpa only [chkE] using h)
  | .callv f cs, X, W, sc, e, G, tk, eS, h => s_callv G tk eS (fun es h => sCs cs G tk eS h) (by simpa only [chkE] using h)
  | .bi f cs, X, W, sc, e, G, tk, eS, h => s_bi G tk eS (fun es h => sCs cs G tk eS h) (by simpa only [chkE] using h)
  | .isi a ts, X, W, sc, e, G, tk, eS, h => by
    simp only [chkE] at h
    unfold mIsi at h
    split at h
    · simp only [Bool.and_eq_true, decide_eq_true_eq] at h
      obtain ⟨rfl, h2, h3, h4, h5⟩ := h
      have ra := (sC a G tk eS h4).pe
      have F : ∀ (t : Ty), isG sc (tyN t) = true → TyFree X t := fun t hg => ⟨gl_of hg eS, G.b (by cases t <;> decide)⟩
      refine Run.of ?_ (fun _ => rfl) fun op vs p q => by cases q
      unfold mTys at h5
      split at h5
      · simp only [Bool.and_eq_true, decide_eq_true_eq] at h5
        obtain ⟨rfl, h6⟩ := h5
        exact e_isi1 (gl_of h2 eS) (G.b (by decide)) (F _ h6) ra h3
      · simp only [Bool.and_eq_true, decide_eq_true_eq] at h5
        obtain ⟨h6, h7⟩ := h5
        have all : ∀ (ts : List Ty) (es : List Expr), chkTys sc ts es = true → ∀ t ∈ ts, TyFree X t := fun ts => by
          induction ts with
          | nil => intro es _ t ht; cases ht
          | cons t ts ih =>
            intro es h t' ht
            cases es with
            | nil => cases h
            | cons e es =>
              simp only [chkTys, Bool.and_eq_true] at h
              rcases List.mem_cons.mp ht with rfl | ht
              · exact F _ h.1.2
              · exact ih es h.2 t' ht
        exact e_isiT (gl_of h2 eS) (G.b (by decide)) (all _ _ h6) h7 (by rw [eS]; exact h6) ra h3
      · cases h5
    · cases h
  | .lc e0 t kd cs cd, X, W, sc, e, G, tk, eS, h => by
    simp only [chkE] at h
    unfold mLc at h
    split at h
    · simp only [Bool.and_eq_true, decide_eq_true_eq] at h
      obtain ⟨h0, h1, h2, h3, h4, h5, h6, h7, h8⟩ := h
      rename_i e' tg it ifs ia osc pos
      subst h0
      refine Run.of (peI ?_ fun σ H Q z => lc_read z) (fun _ => rfl) fun op vs p q => by cases q
      have em := tgNames_map h3
      rw [← em]
      refine pe_lc G.calm G.nd (s_it (t := t) (osc := osc) G eS h3 h1 (fun es h => sCs cs G tk eS h) h7) (blkOk_by (by rw [G.eN, eS]; exact h4)) (fun s H C cl' fp => ?_) (fun s H C cl' fp => ?_) (fun s H C cl' fp => ?_) (okE_fold h8)
      · exact pg_tg (cf := cf) G.calm G.nd G.eN at_blk h3
      · have z := sCs cd (G.blk s H osc (compEnvC osc cl' C X.env) fp) takes0 (show _ = relS osc sc by rw [← eS]; rfl) h5
        cases z with
        | nil => exact ts_nil
        | cons z zz =>
          cases zz with
          | cons _ _ => simp at h6
          | nil => exact ts_one z.2.2
      · exact (sC e0 (G.blk s H osc (compEnvC osc cl' C X.env) fp) takes0 (show _ = relS osc sc by rw [← eS]; rfl) h2).pe
    · cases h
  | .xf i f, X, W, sc, e, G, tk, eS, h => by
    obtain ⟨h1, h2, h3⟩ := false_pe (X := X) (P := P) (cl := cl) (W := W) (e := e) (c := .xf i f) fun S0 LL ρ q E σ H R hw => by
      unfold wE at hw
      split at hw
      · rename_i z; exact no_xc G.xa R z
      · exact hw
    exact ⟨h1, h2, fun _ _ _ _ => h3⟩
  | .xis i c, X, W, sc, e, G, tk, eS, h => by
    obtain ⟨h1, h2, h3⟩ := false_pe (X := X) (P := P) (cl := cl) (W := W) (e := e) (c := .xis i c) fun S0 LL ρ q E σ H R hw => by
      unfold wE at hw
      split at hw
      · rename_i z; exact no_xc G.xa R z
      · exact hw
    exact ⟨h1, h2, fun _ _ _ _ => h3⟩
theorem sCs : ∀ (cs : List C) {X : Cx} {W : WX} {sc : Scope} {es : List Expr}, Gd X cf P cl k → Takes X W → X.env.scope = sc → chkEs cf cs sc es = true → All2 (AEx X P cl W) cs es
  | [], X, W, sc, es, G, tk, eS, h => by
    simp only [chkEs] at h
    cases es with
    | nil => exact .nil
    | cons _ _ => cases h
  | c :: cs, X, W, sc, es, G, tk, eS, h => by
    simp only [chkEs] at h
    unfold mCons at h
    split at h
    · simp only [Bool.and_eq_true] at h
      exact .cons ⟨h.2.1, (sC c G tk eS h.1).pe, (sC c G tk eS h.1).pt⟩ (sCs cs G tk eS h.2.2)
    · cases h
end
end
end Uq

set_option maxHeartbeats 1000000
/-! Uq, part n: statements' readings. -/
namespace Uq
open PySem PySem.Spec PyProof.Rows L2
/-- what is wanted behind a statement, as the core's K says -/
structure EdOk (Kf : PySem.W.Frag) (P : Pg) (W : WX) (S0 : Addr → Prop) (LL : Ow) (H : Hp) (k : K) (D : Ends) : Prop where
  nx : ∀ LL' ρ' σ' H', Rel Kf P S0 LL' ρ' σ' H' → Fm LL H LL' H' → k.nx ρ' → D.nx σ' H'
  rt : ∀ d v LL' H', Rp Kf S0 H' d v → Fm LL H LL' H' → k.rt d → D.rt v H'
  bk : ∀ LL' ρ' σ' H', Rel Kf P S0 LL' ρ' σ' H' → Fm LL H LL' H' → k.bk ρ' → D.bk σ' H'
  ct : ∀ LL' ρ' σ' H', Rel Kf P S0 LL' ρ' σ' H' → Fm LL H LL' H' → k.ct ρ' → D.ct σ' H'
  ex : ∀ c fs cv dx LL' ρ' σ' H', Rel Kf P S0 LL' ρ' σ' H' → Fm LL H LL' H' → XRp Kf P H' c fs cv dx → k.ex c fs ρ' → W cv dx σ' H'
theorem EdOk.from {Kf : PySem.W.Frag} {P : Pg} {W : WX} {S0 : Addr → Prop} {LL LL1 : Ow} {H H1 : Hp} {k : K} {D : Ends} (f : Fm LL H LL1 H1) (h : EdOk Kf P W S0 LL H k D) : EdOk Kf P W S0 LL1 H1 k D :=
  ⟨fun _ _ _ _ R g q => h.nx _ _ _ _ R (f.trans g) q, fun _ _ _ _ R g q => h.rt _ _ _ _ R (f.trans g) q, fun _ _ _ _ R g q => h.bk _ _ _ _ R (f.trans g) q, fun _ _ _ _ R g q => h.ct _ _ _ _ R (f.trans g) q,
    fun _ _ _ _ _ _ _ _ R g x q => h.ex _ _ _ _ _ _ _ _ R (f.trans g) x q⟩
section
variable (Kf : PySem.W.Frag) (P : Pg) (cl : Cl) (W : WX)
def tS (s : S) : TS := fun D σ H => ∃ S0 LL ρ k, Rel Kf P S0 LL ρ σ H ∧ wS cl s ρ k ∧ EdOk Kf P W S0 LL H k D
def tSs (ss : List S) : TS := fun D σ H => ∃ S0 LL ρ k, Rel Kf P S0 LL ρ σ H ∧ wSs cl ss ρ k ∧ EdOk Kf P W S0 LL H k D
end
section
variable {X : Cx} {P : Pg} {cl : Cl} {W : WX} {e' : Expr} {e : C} {pos : Pos} {st : Stmt} {sts : List Stmt} {s : S} {ss : List S}
theorem psI {t t' : TS} (h : PS X st t) (i : ∀ D σ H, t' D σ H → t D σ H) : PS X st t' := ⟨fun pins s σ H D I q => h.run pins s σ H D I (i D σ H q)⟩
theorem pssI {t t' : TS} (h : PSs X sts t) (i : ∀ D σ H, t' D σ H → t D σ H) : PSs X sts t' := ⟨fun pins s σ H D I q => h.run pins s σ H D I (i D σ H q)⟩
/-! ### blocks -/
theorem ss_nil : PSs X [] (tSs X.K P cl W []) := pssI pss_nil fun D σ H ⟨S0, LL, ρ, k, R, hw, hk⟩ => hk.nx _ _ _ _ R Fm.refl hw
theorem ss_cons (h : PS X st (tS X.K P cl W s)) (hs : PSs X sts (tSs X.K P cl W ss)) : PSs X (st :: sts) (tSs X.K P cl W (s :: ss)) :=
  pssI (pss_cons h hs) fun D σ H ⟨S0, LL, ρ, k, R, hw, hk⟩ => ⟨S0, LL, ρ, _, R, hw, ⟨fun LL' ρ' σ' H' R' f q => ⟨S0, LL', ρ', k, R', q, hk.from f⟩, hk.rt, hk.bk, hk.ct, hk.ex⟩⟩
theorem ss_kil {is : List Nat} (hs : PSs X sts (tSs X.K P cl W ss)) : PSs X sts (tSs X.K P cl W (.kil is :: ss)) :=
  pssI hs fun D σ H ⟨S0, LL, ρ, k, R, hw, hk⟩ => ⟨S0, _, kil is ρ, k, R.kil is rfl fun _ _ => rfl, hw, hk.from Fm.frz⟩
theorem s_pas : PS X (.Pass pos) (tS X.K P cl W .pas) := psI ps_pass fun D σ H ⟨S0, LL, ρ, k, R, hw, hk⟩ => hk.nx _ _ _ _ R Fm.refl hw
theorem s_brk : PS X (.Break pos) (tS X.K P cl W .brk) := psI ps_break fun D σ H ⟨S0, LL, ρ, k, R, hw, hk⟩ => hk.bk _ _ _ _ R Fm.refl hw
theorem s_cnt : PS X (.Continue pos) (tS X.K P cl W .cnt) := psI ps_continue fun D σ H ⟨S0, LL, ρ, k, R, hw, hk⟩ => hk.ct _ _ _ _ R Fm.refl hw
theorem exE {Kf : PySem.W.Frag} {S0 : Addr → Prop} {LL : Ow} {ρ : Env} {σ : L2.St} {H : Hp} {k : K} {D : Ends} (R : Rel Kf P S0 LL ρ σ H) (hk : EdOk Kf P W S0 LL H k D) : ∀ c fs cv dx H', Same H H' → XRp Kf P H' c fs cv dx → k.ex c fs ρ → W cv dx σ H' :=
  fun c fs cv dx H' s x q => hk.ex c fs cv dx LL ρ σ H' (R.same s) (Fm.of_same s) x q
theorem s_exp (he : PE X e' (tE X.K P cl W e)) (hs : swapsWith e' none pos.line X.env = pure false) : PS X (.Expr e' pos) (tS X.K P cl W (.exp e)) :=
  psI (ps_expr he hs) fun D σ H ⟨S0, LL, ρ, k, R, hw, hk⟩ => ⟨S0, LL, ρ, _, _, R, hw, fun d v H' s r q => hk.nx _ _ _ _ (R.same s) (Fm.of_same s) q, exE R hk⟩
theorem s_ret (he : PE X e' (tE X.K P cl W e)) : PS X (.Return (some e') pos) (tS X.K P cl W (.ret e)) :=
  psI (ps_ret he) fun D σ H ⟨S0, LL, ρ, k, R, hw, hk⟩ => ⟨S0, LL, ρ, _, _, R, hw, fun d v H' s r q => hk.rt d v LL H' (r.1.wide fun _ _ _ z => z.1) (Fm.of_same s) q, exE R hk⟩
theorem s_retN : PS X (.Return none pos) (tS X.K P cl W .retN) := psI ps_retN fun D σ H ⟨S0, LL, ρ, k, R, hw, hk⟩ => hk.rt .none .non LL H (by simp only [Rp]) Fm.refl hw
theorem s_ite {c : C} {c' : Expr} {a b : List S} {a' b' : List Stmt} (hc : PT X c' (tT X.K P cl W c)) (ha : PSs X a' (tSs X.K P cl W a)) (hb : PSs X b' (tSs X.K P cl W b)) : PS X (.If c' a' b' pos) (tS X.K P cl W (.ite c a b)) := by
  refine psI (ps_if hc ha hb) fun D σ H ⟨S0, LL, ρ, k, R, hw, hk⟩ => ⟨S0, LL, ρ, _, _, R, hw, fun d H' s h => truR_mono h fun t ht => ?_, exE R hk⟩
  cases t with
  | true => exact ⟨S0, LL, ρ, k, R.same s, ht, hk.from (Fm.of_same s)⟩
  | false => exact ⟨S0, LL, ρ, k, R.same s, ht, hk.from (Fm.of_same s)⟩
/-! ### stores -/
theorem noLs_list {ds : List D} (h : noLs ds = true) : ∀ {K : PySem.W.Frag} {S S' : Addr → Prop} {H : Hp} {vs : List V}, Rps K S H ds vs → Rps K S' H ds vs := fun r => Rps.noL _ _ h r
/-- what a value shares is no slot's own from here on -/
theorem shr_rel {Kf : PySem.W.Frag} {S0 : Addr → Prop} {LL : Ow} {ρ : Env} {σ : L2.St} {H H' : Hp} {d : D} {v : V} (R : Rel Kf P S0 LL ρ σ H) (s : Same H H') (r : Res Kf (NmS S0 LL (nms e)) H H' (fresh e) d v) :
    ∃ LL1, Rel Kf P S0 LL1 (shr e d ρ) σ H ∧ Fm LL H LL1 H ∧ Rp Kf (SS S0 LL1) H' d v ∧ (fresh e = true → ∀ ds, d = .list ds → ∃ a vs, v = .ref a ∧ H a = none ∧ H' a = some (.lst vs) ∧ Rps Kf (fun b => SS S0 LL1 b ∧ b ≠ a) H' ds vs) := by
  have caseF : ∃ LL1, Rel Kf P S0 LL1 (frzL (nms e) ρ) σ H ∧ Fm LL H LL1 H ∧ Rp Kf (SS S0 LL1) H' d v ∧ (fresh e = true → ∀ ds, d = .list ds → ∃ a vs, v = .ref a ∧ H a = none ∧ H' a = some (.lst vs) ∧ Rps Kf (fun b => SS S0 LL1 b ∧ b ≠ a) H' ds vs) :=
    ⟨_, R.frzL _, Fm.frz, r.1.wide fun _ _ _ z => z.frz, fun f ds ed => let ⟨a, vs, e1, e2, e3, e4⟩ := r.2 f ds ed; ⟨a, vs, e1, e2, e3, e4.wide fun _ _ _ z => ⟨z.1.frz, z.2⟩⟩⟩
  unfold shr
  split
  · rename_i ds ef
    split
    · rename_i hn
      obtain ⟨a, vs, e1, e2, e3, e4⟩ := r.2 ef ds rfl
      have na : ∀ j, a ∉ LL j := fun j hj => by
        obtain ⟨_, xs, z⟩ := R.own j a hj
        rw [e2] at z; cases z
      refine ⟨LL, R, Fm.refl, ?_, fun _ ds' ed => ?_⟩
      · simp only [Rp]
        exact ⟨a, vs, e1, ⟨R.fr a e2, na⟩, e3, noLs_list hn e4⟩
      · cases ed
        exact ⟨a, vs, e1, e2, e3, noLs_list hn e4⟩
    · exact caseF
  · rename_i hx
    split
    · rename_i hn
      exact ⟨LL, R, Fm.refl, Rp.noL _ _ hn r.1, fun f ds ed => absurd ed (hx ds f)⟩
    · exact caseF
/-- name = value -/
theorem asg_read {Kf : PySem.W.Frag} {S0 : Addr → Prop} {LL : Ow} {ρ : Env} {σ : L2.St} {H H' : Hp} {d : D} {v : V} {i : Nat} (R : Rel Kf P S0 LL ρ σ H) (s : Same H H') (r : Res Kf (NmS S0 LL (nms e)) H H' (fresh e) d v) :
    ∃ LL', Rel Kf P S0 LL' (asgn e i d ρ) (σ.set i (some v)) H' ∧ Fm LL H LL' H' := by
  obtain ⟨LL1, R1, f1, r1, hf⟩ := shr_rel R s r
  unfold asgn
  split
  · rename_i ds ef
    obtain ⟨a, vs, rfl, e2, e3, e4⟩ := hf ef ds rfl
    exact ⟨_, R1.setOl s i e2 e3 e4, f1.trans (Fm.more s e2)⟩
  · exact ⟨_, (R1.same s).setVa i r1, (f1.trans (Fm.of_same s)).trans Fm.less⟩
theorem s_asg {i : Nat} {x : Str} {p : Pos} (hN : X.N.Nodup) (hi : X.N[i]? = some x) (hx : Loc X.env.scope x) (hf : X.fn x = true ∨ X.env.scope.names.lookup x = some .local) (he : PE X e' (tE X.K P cl W e)) (hs : swapsWith e' (some (.Name x p)) pos.line X.env = pure false) :
    PS X (.Assign [.Name x p] e' pos) (tS X.K P cl W (.asg i e)) :=
  psI (ps_set hN hi hx he hs hf) fun D σ H ⟨S0, LL, ρ, k, R, hw, hk⟩ => ⟨S0, LL, ρ, _, _, R, hw, fun d v H' s r q => let ⟨LL', R', f⟩ := asg_read R s r; hk.nx _ _ _ _ R' f q, exE R hk⟩
/-- a, .. = value -/
theorem s_unp {is : List Nat} {tg : Expr} (he : PE X e' (tE X.K P cl W e)) (hg : PG X tg (gTg X.K (.tp is))) (hs : swapsWithSole [tg] e' pos.line X.env = pure false) (hw : swappedStores [tg] e' X.env = pure none) (h1 : (assignEach [tg] X.env).map (·.2) = [assign tg X.env]) :
    PS X (.Assign [tg] e' pos) (tS X.K P cl W (.unp is e)) := by
  refine psI (ps_asg he hg hs hw h1) fun D σ H ⟨S0, LL, ρ, k, R, hw, hk⟩ => ⟨S0, LL, ρ, _, _, R, hw, fun d v H' s r q => ?_, exE R hk⟩
  obtain ⟨LL1, R1, f1, r1, hf⟩ := shr_rel R s r
  have q' : tgR (.tp is) d (shr e d ρ) k.nx := by
    cases d <;> first | exact q | exact q.elim
  exact tg_read (t := .tp is) (R1.same s) r1 q' fun LL' ρ' σ' S hρ => hk.nx _ _ _ _ S.rel ((f1.trans (Fm.of_same s)).trans S.fm) hρ
/-- a, b = x, y -/
theorem s_par {i j : Nat} {x y : Str} {a b : C} {a' b' : Expr} {px py pt : Pos} {kt k2 pt2} (hc : X.calm = true) (hN : X.N.Nodup) (hi : X.N[i]? = some x) (hj : X.N[j]? = some y) (hij : i ≠ j)
    (hx : X.env.scope.names.lookup x = some .local) (hy : X.env.scope.names.lookup y = some .local) (ha : PA X [a', b'] (tEsL X.K P cl W [a, b]))
    (hw : swappedStores [.Tuple [.Name x px, .Name y py] kt pt] (.Tuple [a', b'] k2 pt2) X.env = pure (some [x, y])) :
    PS X (.Assign [.Tuple [.Name x px, .Name y py] kt pt] (.Tuple [a', b'] k2 pt2) pos) (tS X.K P cl W (.par i j a b)) := by
  refine psI (ps_par hc hN hi hj hij hx hy ha hw) fun D σ H ⟨S0, LL, ρ, k, R, hw, hk⟩ => ⟨S0, LL, ρ, fun ds => ∃ x y, ds = [x, y] ∧ k.nx (((frzL (nms a ++ nms b) ρ).set i (.va x)).set j (.va y)), _, R, ?_, fun ds vs H1 s1 r1 l1 h1 => ?_, exE R hk⟩
  · have e1 : (fun (x : Uq.D) => wEs cl [b] ρ (fun vs => ∃ x' y, x :: vs = [x', y] ∧ k.nx (((frzL (nms a ++ nms b) ρ).set i (.va x')).set j (.va y))) fun c fs => k.ex c fs ρ) =
        fun x => wE cl b ρ (fun y => k.nx (((frzL (nms a ++ nms b) ρ).set i (.va x)).set j (.va y))) fun c fs => k.ex c fs ρ := by
      funext x
      show wE cl b ρ (fun y => ∃ x' y', x :: [y] = [x', y'] ∧ _) _ = _
      congr 1
      funext y
      apply propext
      constructor
      · rintro ⟨x', y', ee, q⟩
        cases ee
        exact q
      · exact fun q => ⟨x, y, rfl, q⟩
    show wE cl a ρ _ _
    rw [e1]
    exact hw
  · obtain ⟨x, y, rfl, q⟩ := h1
    obtain ⟨v, w, rfl, h1, h2⟩ := r1.two_
    refine ⟨v, w, rfl, ?_⟩
    have en : nmsL [a, b] = nms a ++ nms b := by show nms a ++ (nms b ++ []) = _; rw [List.append_nil]
    rw [en] at h1 h2
    have R1 := (R.same s1).frzL (nms a ++ nms b)
    have R2 := R1.setVa i (h1.wide fun _ _ _ z => z.frz)
    have R3 := R2.setVa j ((h2.wide fun _ _ _ z => z.frz).wide fun _ _ _ z => z.less)
    exact hk.nx _ _ _ _ R3 (((Fm.of_same s1).trans Fm.frz).trans (Fm.less.trans Fm.less)) q
end
end Uq

set_option maxHeartbeats 1000000
/-! Uq, part o: lists that change; loops. -/
namespace Uq
open PySem PySem.Spec PyProof.Rows L2
theorem par_sw {x y : Str} {px py pt pt2 : Pos} {kt k2 : Nat} {a b : Expr} {env : PySem.Env} (hk : env.scope.kind = .function) (hx : env.scope.names.lookup x = some .local) (hy : env.scope.names.lookup y = some .local) (hxy : x ≠ y) (ha : okE a = true) (hb : okE b = true)
    (h : parSw px py a b = true) : swappedStores [.Tuple [.Name x px, .Name y py] kt pt] (.Tuple [a, b] k2 pt2) env = pure (some [x, y]) := by
  unfold parSw at h
  simp only [Bool.and_eq_true, Bool.or_eq_true, Bool.not_eq_true'] at h
  obtain ⟨h1, h2, h3⟩ := h
  have e1 : (List.all [a, b] fun e => foldedForSure 8 e) = false := by
    simp only [List.all_cons, List.all_nil, Bool.and_true]
    rcases h2 with z | z <;> rw [z] <;> simp
  have e2 : (List.all [a, b] fun e => constantsAlone 8 e) = false := by
    simp only [List.all_cons, List.all_nil, Bool.and_true]
    rcases h3 with z | z <;> rw [z] <;> simp
  have any2 : ∀ f : Expr → Bool, f a = false → f b = false → List.any [a, b] f = false := fun f z1 z2 => by simp [z1, z2]
  have bk : env.blockKind = .function := by unfold Env.blockKind; rw [hk]; rfl
  have kx : env.kindOf x = some .local := hx
  have ky : env.kindOf y = some .local := hy
  have l1 : (py.line == px.line) = true := by
    rw [beq_iff_eq] at h1 ⊢
    exact h1.symm
  have ed : ([x, y] : List Str).eraseDups = [x, y] := by
    have : (x == y) = false := by simpa using hxy
    simp [List.eraseDups_cons, this, Ne.symm hxy]
  unfold swappedStores
  dsimp only
  rw [any2 _ (by cases a <;> first | rfl | cases ha) (by cases b <;> first | rfl | cases hb)]
  simp only [List.length_cons, List.length_nil, bk, List.filterMap_cons, List.filterMap_nil, kx, ky, Expr.pos, List.head?_cons, Option.map_some, Option.getD_some, e1, e2, ed, beq_self_eq_true, l1, Bool.and_self, if_true]
  rfl
section
variable {X : Cx} {P : Pg} {cl : Cl} {W : WX} {e' a' : Expr} {e a : C} {pos p apos cpos : Pos} {x : Str} {i j : Nat}
/-- the list that the slot holds alone -/
theorem own_at {Kf : PySem.W.Frag} {S0 : Addr → Prop} {LL : Ow} {ρ : Env} {σ : L2.St} {H : Hp} (R : Rel Kf P S0 LL ρ σ H) {ds : List D} (e : ρ[i]? = some (.ol ds)) : ∃ (a : Addr) (xs : List V), σ[i]? = some (some (V.ref a)) ∧ H a = some (.lst xs) := by
  obtain ⟨a, xs, h1, h2, _⟩ := R.chg (ds' := ds) i e
  exact ⟨a, xs, h1, h2⟩
theorem not_tup {e : Expr} (h : notTup e = true) : plainV e = true := by
  cases e <;> first | rfl | cases h
theorem sw_plain {e : Expr} {t : Expr} {l : Nat} {env : PySem.Env} (h : plainV e = true) : swapsWith e (some t) l env = pure false := by
  cases e <;> first | rfl | cases h
theorem sw_none {e : Expr} {l : Nat} {env : PySem.Env} (h : plainV e = true) : swapsWith e none l env = pure false := by
  cases e <;> first | rfl | cases h
theorem ss_none {e t : Expr} {env : PySem.Env} (h : notTup e = true) : swappedStores [t] e env = pure none := by
  cases e <;> first | (cases t <;> rfl) | cases h
/-- x[a] = e -/
theorem s_put {o' : Expr} {p2 : Pos} (hi : X.N[i]? = some x) (hv : Vis X.env.scope x) (hd : (x == ("__debug__" : Str)) = false) (hcd : (x == ("__classdict__" : Str)) = false) (ha : PE X a' (tE X.K P cl W a)) (he : PE X e' (tE X.K P cl W e)) (hp : notTup e' = true) (hm : okE a' = true) :
    PS X (.Assign [.Subscript (.Name x p) a' p2] e' pos) (tS X.K P cl W (.put i a e)) := by
  refine psI (ps_asg he (pg_sub (pe_var hi hv hd hcd) ha set_list (fun v => by cases a' <;> first | rfl | cases hm)) (by cases e' <;> first | rfl | cases hp) (ss_none hp) rfl) fun D σ H ⟨S0, LL, ρ, k, R, hw, hk⟩ => ⟨S0, LL, ρ, _, _, R, hw, fun d v H1 s1 r1 q => ?_, exE R hk⟩
  obtain ⟨LL1, R1, f1, r1', _⟩ := shr_rel R s1 r1
  have R1' := R1.same s1
  have F1 : Fm LL H LL1 H1 := f1.trans (Fm.of_same s1)
  cases eo : (shr e d ρ)[i]? with
  | none => rw [eo] at q; exact q.elim
  | some sl =>
    rw [eo] at q
    cases sl <;> first | exact q.elim | skip
    rename_i ds
    obtain ⟨l, xs, h1, h2⟩ := own_at R1' eo
    refine ⟨_, h1, S0, LL1, _, _, _, R1', q, fun y w H2 s2 r2 q2 => ?_, fun c fs cv dx H' s x q => hk.ex c fs cv dx LL1 _ σ H' (R1'.same s) (F1.trans (Fm.of_same s)) x q⟩
    cases y <;> first | exact q2.elim | skip
    obtain ⟨n, hn, q3⟩ := q2
    have ew := r2.1.int_
    subst ew
    have R2 := R1'.same s2
    obtain ⟨l', xs', g1, g2, g3, g4⟩ := R2.chg (ds' := ds.set n d) i eo
    rw [h1] at g1
    cases g1
    obtain ⟨R3, F3⟩ := g4 (xs'.set n v) H2 (Same.refl _) (g3.set n (r1'.same s2))
    refine ⟨l, xs', _, n, rfl, rfl, g2, by rw [← g3.length]; exact hn, ?_⟩
    exact hk.nx _ _ _ _ R3 ((F1.trans (Fm.of_same s2)).trans F3) q3
/-- what a change of an own list comes to -/
theorem chg_read {Kf : PySem.W.Frag} {S0 : Addr → Prop} {LL : Ow} {ρ : Env} {σ : L2.St} {H H1 : Hp} {ds ds' : List D} {l : Addr} {xs' : List V} (R : Rel Kf P S0 LL ρ σ H) (s : Same H H1) (e : ρ[i]? = some (.ol ds)) (hl : σ[i]? = some (some (.ref l))) (r : Rps Kf (SS S0 LL) H1 ds' xs') :
    Rel Kf P S0 LL (ρ.set i (.ol ds')) σ (upd H1 l (.lst xs')) ∧ Fm LL H LL (upd H1 l (.lst xs')) := by
  obtain ⟨l', xs, g1, g2, g3, g4⟩ := R.chg (ds' := ds') i e
  rw [hl] at g1
  cases g1
  exact g4 xs' H1 s r
theorem own_rd {Kf : PySem.W.Frag} {S0 : Addr → Prop} {LL : Ow} {ρ : Env} {σ : L2.St} {H : Hp} {ds : List D} {l : Addr} (R : Rel Kf P S0 LL ρ σ H) (e : ρ[i]? = some (.ol ds)) (hl : σ[i]? = some (some (.ref l))) : ∃ xs, H l = some (.lst xs) ∧ Rps Kf (SS S0 LL) H ds xs := by
  obtain ⟨l', xs, g1, g2, g3, g4⟩ := R.chg (ds' := ds) i e
  rw [hl] at g1
  cases g1
  exact ⟨xs, g2, g3⟩
/-- x.append(e) -/
theorem s_app (hi : X.N[i]? = some x) (hv : Vis X.env.scope x) (hd : (x == ("__debug__" : Str)) = false) (hcd : (x == ("__classdict__" : Str)) = false) (he : PE X e' (tE X.K P cl W e)) (hs : okE e' = true) (hl : (apos.endLine == cpos.line) = true) :
    PS X (.Expr (.Call (.Attribute (.Name x p) "append" apos) [e'] [] cpos) pos) (tS X.K P cl W (.app i e)) := by
  refine psI (ps_expr (pe_bm PySem.F.plainAttrs_list PySem.F.slot_list_append PySem.F.type_list_append mt_append (pe_var hi hv hd hcd) (pa_cons he pa_nil (okE_star hs)) rfl (by rw [okE_star hs]; rfl) hl (okE_star hs) rfl)) fun D σ H ⟨S0, LL, ρ, k, R, hw, hk⟩ => ?_
  obtain ⟨⟨ds0, e0⟩, hw⟩ := hw
  obtain ⟨l, xs, h1, h2⟩ := own_at R e0
  refine ⟨_, h1, .inl ⟨rfl, xs, SqL.of h2⟩, S0, LL, ρ, _, _, R, hw, fun d v H1 s1 r1 q => ?_, exE R hk⟩
  obtain ⟨LL1, R1, f1, r1', _⟩ := shr_rel R s1 r1
  cases eo : (shr e d ρ)[i]? with
  | none => rw [eo] at q; exact q.elim
  | some sl =>
    rw [eo] at q
    cases sl <;> first | exact q.elim | skip
    rename_i ds
    obtain ⟨ys, g1, g2⟩ := own_rd (R1.same s1) eo h1
    obtain ⟨R3, F3⟩ := chg_read (R1.same s1) (Same.refl _) eo h1 (g2.append (.one r1'))
    exact ⟨l, ys, v, rfl, rfl, g1, by rw [← g2.length]; exact q.1, hk.nx _ _ _ _ R3 ((f1.trans (Fm.of_same s1)).trans F3) q.2⟩
/-- x.extend(e) -/
theorem s_ext (hi : X.N[i]? = some x) (hv : Vis X.env.scope x) (hd : (x == ("__debug__" : Str)) = false) (hcd : (x == ("__classdict__" : Str)) = false) (he : PE X e' (tE X.K P cl W e)) (hs : okE e' = true) (hl : (apos.endLine == cpos.line) = true) :
    PS X (.Expr (.Call (.Attribute (.Name x p) "extend" apos) [e'] [] cpos) pos) (tS X.K P cl W (.ext i e)) := by
  refine psI (ps_expr (pe_bm PySem.F.plainAttrs_list PySem.F.slot_list_extend PySem.F.type_list_extend mt_extend (pe_var hi hv hd hcd) (pa_cons he pa_nil (okE_star hs)) rfl (by rw [okE_star hs]; rfl) hl (okE_star hs) rfl)) fun D σ H ⟨S0, LL, ρ, k, R, hw, hk⟩ => ?_
  obtain ⟨⟨ds0, e0⟩, hw⟩ := hw
  obtain ⟨l, xs, h1, h2⟩ := own_at R e0
  refine ⟨_, h1, .inl ⟨rfl, xs, SqL.of h2⟩, S0, LL, ρ, _, _, R, hw, fun d v H1 s1 r1 q => ?_, exE R hk⟩
  obtain ⟨LL1, R1, f1, r1', _⟩ := shr_rel R s1 r1
  cases d <;> first | exact q.elim | skip
  rename_i es _
  cases eo : (shr e (.list es) ρ)[i]? with
  | none => rw [eo] at q; exact q.elim
  | some sl =>
    rw [eo] at q
    cases sl <;> first | exact q.elim | skip
    rename_i ds
    obtain ⟨ys, g1, g2⟩ := own_rd (R1.same s1) eo h1
    obtain ⟨b, zs, rfl, sb, hb, rb⟩ := r1'.lst_
    obtain ⟨R3, F3⟩ := chg_read (R1.same s1) (Same.refl _) eo h1 (g2.append rb)
    exact ⟨l, b, ys, zs, rfl, rfl, g1, hb, by rw [← g2.length, ← rb.length]; exact q.1, hk.nx _ _ _ _ R3 ((f1.trans (Fm.of_same s1)).trans F3) q.2⟩
theorem last_at {α : Type} : ∀ {xs : List α} {y : α}, xs.getLast? = some y → xs[xs.length - 1]? = some y := fun {xs y} h => by rw [← List.getLast?_eq_getElem?]; exact h
/-- x.pop() -/
theorem s_pop (hi : X.N[i]? = some x) (hv : Vis X.env.scope x) (hd : (x == ("__debug__" : Str)) = false) (hcd : (x == ("__classdict__" : Str)) = false) (hl : (apos.endLine == cpos.line) = true) :
    PS X (.Expr (.Call (.Attribute (.Name x p) "pop" apos) [] [] cpos) pos) (tS X.K P cl W (.pop i)) := by
  refine psI (ps_expr (pe_bm0 PySem.F.plainAttrs_list PySem.F.slot_list_pop PySem.F.type_list_pop mt_pop (pe_var hi hv hd hcd) rfl hl)) fun D σ H ⟨S0, LL, ρ, k, R, hw, hk⟩ => ?_
  unfold wS at hw
  cases eo : ρ[i]? with
  | none => rw [eo] at hw; exact hw.elim
  | some sl =>
    rw [eo] at hw
    cases sl <;> first | exact hw.elim | skip
    rename_i ds
    obtain ⟨hne, hn⟩ := hw
    obtain ⟨l, xs0, h1, _⟩ := own_at R eo
    obtain ⟨xs, g1, g2⟩ := own_rd R eo h1
    obtain ⟨d, ed⟩ : ∃ d, ds.getLast? = some d := by
      cases q : ds.getLast? with
      | none => exact absurd (List.getLast?_eq_none_iff.mp q) hne
      | some d => exact ⟨d, rfl⟩
    obtain ⟨y, ey, ry⟩ := g2.get (last_at ed)
    obtain ⟨R3, F3⟩ := chg_read R (Same.refl _) eo h1 g2.dropLast
    exact ⟨_, h1, .inl ⟨rfl, xs, SqL.of g1⟩, l, xs, y, rfl, rfl, g1, by rw [← g2.length]; exact ey, hk.nx _ _ _ _ R3 F3 hn⟩
/-- y = x.pop() -/
theorem s_popTo {y : Str} {p2 : Pos} (hN : X.N.Nodup) (hi : X.N[i]? = some x) (hv : Vis X.env.scope x) (hd : (x == ("__debug__" : Str)) = false) (hcd : (x == ("__classdict__" : Str)) = false) (hl : (apos.endLine == cpos.line) = true)
    (hj : X.N[j]? = some y) (hy : Loc X.env.scope y) (hf : X.fn y = true ∨ X.env.scope.names.lookup y = some .local) : PS X (.Assign [.Name y p2] (.Call (.Attribute (.Name x p) "pop" apos) [] [] cpos) pos) (tS X.K P cl W (.popTo j i)) := by
  refine psI (ps_set hN hj hy (pe_bm0 PySem.F.plainAttrs_list PySem.F.slot_list_pop PySem.F.type_list_pop mt_pop (pe_var hi hv hd hcd) rfl hl) rfl hf) fun D σ H ⟨S0, LL, ρ, k, R, hw, hk⟩ => ?_
  unfold wS at hw
  cases eo : ρ[i]? with
  | none => rw [eo] at hw; exact hw.elim
  | some sl =>
    rw [eo] at hw
    cases sl <;> first | exact hw.elim | skip
    rename_i ds
    obtain ⟨d, ed, hn⟩ := hw
    obtain ⟨l, xs0, h1, _⟩ := own_at R eo
    obtain ⟨xs, g1, g2⟩ := own_rd R eo h1
    obtain ⟨v, ey, ry⟩ := g2.get (last_at ed)
    obtain ⟨l', xs', k1, k2, k3, k4⟩ := R.chg (ds' := ds.dropLast) i eo
    rw [h1] at k1
    cases k1
    rw [g1] at k2
    cases k2
    obtain ⟨R3, F3⟩ := k4 xs.dropLast H (Same.refl _) g2.dropLast
    have rv : Rp X.K (SS S0 LL) (upd H l (.lst xs.dropLast)) d v := by
      have kp : Kp (SS S0 LL) H (upd H l (.lst xs.dropLast)) := fun b o eb h => by
        have nb : b ≠ l := by
          rintro rfl
          rcases h with h | h
          · obtain ⟨a, ys, z1, z2, _⟩ := R.slot i _ eo
            have z1 : σ[i]?.join = some (.ref a) := z1
            rw [h1] at z1
            cases z1
            exact h.2 i (by rw [z2]; exact List.mem_cons_self)
          · rw [g1] at eb; cases eb; exact h (moL _) rfl
        rw [upd_ne nb]; exact eb
      exact Rp.mono (fun _ _ _ h => h) kp _ _ ry
    exact ⟨_, h1, .inl ⟨rfl, xs, SqL.of g1⟩, l, xs, v, rfl, rfl, g1, by rw [← g2.length]; exact ey, hk.nx _ _ _ _ (R3.setVa j rv) (F3.trans Fm.less) hn⟩
/-- x.pop(a) -/
theorem s_popA (hi : X.N[i]? = some x) (hv : Vis X.env.scope x) (hd : (x == ("__debug__" : Str)) = false) (hcd : (x == ("__classdict__" : Str)) = false) (ha : PE X a' (tE X.K P cl W a)) (hs : okE a' = true) (hl : (apos.endLine == cpos.line) = true) :
    PS X (.Expr (.Call (.Attribute (.Name x p) "pop" apos) [a'] [] cpos) pos) (tS X.K P cl W (.popA i a)) := by
  refine psI (ps_expr (pe_bm PySem.F.plainAttrs_list PySem.F.slot_list_pop PySem.F.type_list_pop mt_popAt (pe_var hi hv hd hcd) (pa_cons ha pa_nil (okE_star hs)) rfl (by rw [okE_star hs]; rfl) hl (okE_star hs) rfl)) fun D σ H ⟨S0, LL, ρ, k, R, hw, hk⟩ => ?_
  unfold wS at hw
  cases eo : ρ[i]? with
  | none => rw [eo] at hw; exact hw.elim
  | some sl =>
    rw [eo] at hw
    cases sl <;> first | exact hw.elim | skip
    rename_i ds
    obtain ⟨l, xs0, h1, h2⟩ := own_at R eo
    refine ⟨_, h1, .inl ⟨rfl, xs0, SqL.of h2⟩, S0, LL, ρ, _, _, R, hw, fun d v H1 s1 r1 q => ?_, exE R hk⟩
    cases d <;> first | exact q.elim | skip
    obtain ⟨n, hn, hsz, q3⟩ := q
    have ew := r1.1.int_
    subst ew
    obtain ⟨xs, g1, g2⟩ := own_rd (R.same s1) eo h1
    obtain ⟨i1, i2, i3, i4⟩ := ixN_seq hn
    obtain ⟨y, ey, ry⟩ := g2.get (List.getElem?_eq_getElem i2)
    obtain ⟨R3, F3⟩ := chg_read (R.same s1) (Same.refl _) eo h1 (g2.eraseIdx n)
    have z : (sizeLine : Int) < 2 ^ 63 := by rw [sizeLine_eq]; decide
    exact ⟨l, xs, _, n, y, rfl, rfl, g1, by omega, by omega, by rw [← g2.length]; exact i1, ey, hk.nx _ _ _ _ R3 ((Fm.of_same s1).trans F3) q3⟩
/-- x op= e, ints -/
def ipD (o : Bo) : TIp := fun x y H Q => ∃ a b : Int, x = .int a ∧ y = .int b ∧ binR o (.int a) (.int b) fun z => ∃ c : Int, z = .int c ∧ Q (.int c) H
theorem s_aug {o : Bo} (hN : X.N.Nodup) (hi : X.N[i]? = some x) (hx : Loc X.env.scope x) (hf : X.fn x = true ∨ X.env.scope.names.lookup x = some .local) (he : PE X e' (tE X.K P cl W e)) (ho : PIp X (toOp o) (ipD o)) : PS X (.AugAssign (.Name x p) (toOp o) e' pos) (tS X.K P cl W (.aug i o e)) := by
  refine psI (ps_aug hN hi hx he ho hf) fun D σ H ⟨S0, LL, ρ, k, R, hw, hk⟩ => ?_
  unfold wS at hw
  cases eo : ρ[i]? with
  | none => rw [eo] at hw; exact hw.elim
  | some sl =>
    rw [eo] at hw
    cases sl <;> first | exact hw.elim | skip
    rename_i d0
    obtain ⟨_, x0, e0, r0⟩ := R.slot i _ eo
    have es : σ[i]? = some (some x0) := by
      cases q : σ[i]? with
      | none => rw [q] at e0; cases e0
      | some w => rw [q] at e0; exact congrArg some e0
    refine ⟨x0, es, S0, LL, ρ, _, _, R, hw, fun d v H1 s1 r1 q => ?_, exE R hk⟩
    cases d0 <;> cases d <;> first | exact q.elim | skip
    have e1 := r0.int_
    have e2 := r1.1.int_
    subst e1 e2
    refine ⟨_, _, rfl, rfl, ?_⟩
    have fin : ∀ c : Int, k.nx (ρ.set i (.va (.int c))) → D.nx (σ.set i (some (.int c))) H1 := fun c hc => hk.nx _ _ _ _ ((R.same s1).setVa i (by simp only [Rp])) ((Fm.of_same s1).trans Fm.less) hc
    cases o <;> first | exact ⟨_, rfl, fin _ q⟩ | exact ⟨q.1, _, rfl, fin _ q.2⟩
end
end Uq

set_option maxHeartbeats 1000000
/-! Uq, part o2: lists of own lists. -/
namespace Uq
open PySem PySem.Spec PyProof.Rows L2
section
variable {K : PySem.W.Frag} {P : Pg} {S0 : Addr → Prop} {LL : Ow} {ρ : Env} {σ : L2.St} {H H1 : Hp} {i n : Nat}
theorem Lset_id : Lset LL i (LL i) = LL := by
  funext j
  by_cases ej : j = i
  · subst ej; rw [Lset_same]
  · rw [Lset_ne ej]
theorem set_id {a : Addr} (es : σ[i]? = some (some (.ref a))) : σ.set i (some (.ref a)) = σ := by
  apply List.ext_getElem?
  intro j
  by_cases ej : i = j
  · subst ej
    rw [List.getElem?_set_self (List.getElem?_eq_some_iff.mp es).1, es]
  · rw [List.getElem?_set_ne ej]
theorem Rel.atN (R : Rel K P S0 LL ρ σ H) {dss : List (List D)} (e : ρ[i]? = some (.nl dss)) : ∃ a bs, σ[i]? = some (some (.ref a)) ∧ LL i = a :: bs ∧ (a :: bs).Nodup ∧ H a = some (.lst (bs.map V.ref)) ∧ RNl K (SS S0 LL) H bs dss := by
  obtain ⟨a, bs, ev, eL, nd, ha, r⟩ := R.slot i _ e
  refine ⟨a, bs, ?_, eL, nd, ha, r⟩
  cases q : σ[i]? with
  | none => rw [q] at ev; cases ev
  | some w => rw [q] at ev; exact congrArg some ev
/-- one of the own lists is changed -/
theorem Rel.chgN (R : Rel K P S0 LL ρ σ H) {dss : List (List D)} {ds' : List D} {a b : Addr} {bs : List Addr} {xs xs' : List V} (e : ρ[i]? = some (.nl dss)) (es : σ[i]? = some (some (.ref a))) (eL : LL i = a :: bs) (eb : bs[n]? = some b)
    (hb : H b = some (.lst xs)) (r' : Rps K (SS S0 LL) H ds' xs') : Rel K P S0 LL (ρ.set i (.nl (dss.set n ds'))) σ (upd H b (.lst xs')) ∧ Fm LL H LL (upd H b (.lst xs')) := by
  obtain ⟨a', bs', es', eL', nd, ha, r⟩ := R.atN e
  rw [es] at es'
  cases es'
  rw [eL] at eL'
  cases eL'
  have bm : b ∈ LL i := by rw [eL]; exact List.mem_cons_of_mem _ (List.mem_of_getElem? eb)
  have na : ∀ c, SS S0 LL c → c ≠ b := fun c h z => h.2 i (by rw [z]; exact bm)
  have kp : Kp (SS S0 LL) H (upd H b (.lst xs')) := fun c o ec h => by
    rw [upd_ne]
    · exact ec
    · rintro rfl
      rcases h with h | h
      · exact na _ h rfl
      · rw [hb] at ec; cases ec; exact h (moL _) rfl
  have hab : a ≠ b := fun z => (List.nodup_cons.mp nd).1 (by rw [z]; exact List.mem_of_getElem? eb)
  have Z := R.put (H' := upd H b (.lst xs')) i (.nl (dss.set n ds')) (some (.ref a)) (LL i) (fun c _ _ h => by rw [Lset_id]; exact h) kp (fun j hj c hc => ?_) ?_ (fun c hc => ?_) (fun c h => ?_)
  · rw [Lset_id, set_id es] at Z
    refine ⟨Z, fun c o ec h => ?_, fun j c h => .inl ⟨j, h⟩⟩
    rw [upd_ne]
    · exact ec
    · rintro rfl
      exact h i bm
  · rw [upd_ne]
    rintro rfl
    exact hj (R.dj j i _ hc bm)
  · rw [Lset_id]
    exact ⟨a, bs, rfl, eL, nd, by rw [upd_ne hab]; exact ha, RNl.upd kp (Rps.mono (fun _ _ _ h => h) kp _ _ r') (List.nodup_cons.mp nd).2 eb r⟩
  · refine ⟨(R.own i c hc).1, ?_, fun j hj hb' => hj (R.dj j i c hb' hc)⟩
    by_cases ec : c = b
    · subst ec; exact ⟨moL xs', upd_same⟩
    · rw [upd_ne ec]; exact (R.own i c hc).2
  · by_cases ec : c = b
    · subst ec; rw [upd_same] at h; cases h
    · rw [upd_ne ec] at h; exact h
/-- one more own list -/
theorem Rel.chgA {Hs : Hp} (R : Rel K P S0 LL ρ σ Hs) (s : Same Hs H) {dss : List (List D)} {a b : Addr} {bs : List Addr} (e : ρ[i]? = some (.nl dss)) (es : σ[i]? = some (some (.ref a))) (eL : LL i = a :: bs) (hn : Hs b = none) (hb : H b = some (.lst [])) :
    Rel K P S0 (Lset LL i (a :: (bs ++ [b]))) (ρ.set i (.nl (dss ++ [[]]))) σ (upd H a (.lst (bs.map V.ref ++ [.ref b]))) ∧ Fm LL Hs (Lset LL i (a :: (bs ++ [b]))) (upd H a (.lst (bs.map V.ref ++ [.ref b]))) := by
  obtain ⟨a', bs', es', eL', nd, ha, r⟩ := R.atN e
  rw [es] at es'
  cases es'
  rw [eL] at eL'
  cases eL'
  have am : a ∈ LL i := by rw [eL]; exact List.mem_cons_self
  have nb : ∀ j, b ∉ LL j := fun j h => by
    obtain ⟨_, ys, z⟩ := R.own j b h
    rw [hn] at z; cases z
  have hab : a ≠ b := fun z => nb i (by rw [← z]; exact am)
  have na : ∀ c, SS S0 LL c → c ≠ a := fun c h z => h.2 i (by rw [z]; exact am)
  have ha1 : H a = some (.lst (bs.map V.ref)) := s a _ ha
  have inL : ∀ c, c ∈ a :: (bs ++ [b]) ↔ c ∈ LL i ∨ c = b := fun c => by rw [eL]; simp [or_assoc]
  have sub : ∀ c, SS S0 LL c → c ≠ b → SS S0 (Lset LL i (a :: (bs ++ [b]))) c := fun c h n => ⟨h.1, fun j hj => by
    by_cases ej : j = i
    · subst ej
      rw [Lset_same] at hj
      rcases (inL c).mp hj with z | z
      · exact h.2 j z
      · exact n z
    · rw [Lset_ne ej] at hj; exact h.2 j hj⟩
  have kp : Kp (SS S0 LL) Hs (upd H a (.lst (bs.map V.ref ++ [.ref b]))) := fun c o ec h => by
    rw [upd_ne]
    · exact s c o ec
    · rintro rfl
      rcases h with h | h
      · exact na _ h rfl
      · rw [ha] at ec; cases ec; exact h (moL _) rfl
  have Z := R.put (H' := upd H a (.lst (bs.map V.ref ++ [.ref b]))) i (.nl (dss ++ [[]])) (some (.ref a)) (a :: (bs ++ [b])) (fun c o ec h => sub c h (ne_of_none ec hn)) kp (fun j hj c hc => ?_) ?_ (fun c hc => ?_) (fun c h => ?_)
  · rw [set_id es] at Z
    refine ⟨Z, fun c o ec h => ?_, fun j c h => ?_⟩
    · rw [upd_ne]
      · exact s c o ec
      · rintro rfl
        exact h i am
    · by_cases ej : j = i
      · subst ej
        rw [Lset_same] at h
        rcases (inL c).mp h with z | rfl
        · exact .inl ⟨j, z⟩
        · exact .inr hn
      · rw [Lset_ne ej] at h
        exact .inl ⟨j, h⟩
  · obtain ⟨_, xs, z⟩ := R.own j c hc
    rw [upd_ne, z, s c _ z]
    rintro rfl
    exact hj (R.dj j i _ hc am)
  · refine ⟨a, bs ++ [b], rfl, rfl, ?_, by rw [upd_same, List.map_append]; rfl, ?_⟩
    · have e2 : a :: (bs ++ [b]) = (a :: bs) ++ [b] := rfl
      rw [e2]
      refine List.nodup_append.mpr ⟨nd, by simp, fun x hx y hy => ?_⟩
      rw [List.mem_singleton] at hy
      subst hy
      rintro rfl
      exact nb i (by rw [eL]; exact hx)
    · refine RNl.snoc (by rw [upd_ne hab.symm]; exact hb) (r.mono (fun c o ec h => sub c h (ne_of_none ec hn)) kp fun c hc => ?_)
      obtain ⟨_, xs, z⟩ := R.own i c (by rw [eL]; exact List.mem_cons_of_mem _ hc)
      rw [upd_ne, z, s c _ z]
      rintro rfl
      exact (List.nodup_cons.mp nd).1 hc
  · rcases (inL c).mp hc with z | rfl
    · refine ⟨(R.own i c z).1, ?_, fun j hj hb' => hj (R.dj j i c hb' z)⟩
      by_cases ec : c = a
      · subst ec; exact ⟨moL _, upd_same⟩
      · obtain ⟨_, xs, q⟩ := R.own i c z
        exact ⟨xs, by rw [upd_ne ec]; exact s c _ q⟩
    · exact ⟨R.fr c hn, ⟨moL [], by rw [upd_ne hab.symm]; exact hb⟩, fun j _ => nb j⟩
  · by_cases ec : c = a
    · subst ec; rw [upd_same] at h; cases h
    · rw [upd_ne ec] at h; exact same_none s h
end
section
variable {X : Cx} {P : Pg} {cl : Cl} {W : WX} {e' a' : Expr} {e a : C} {pos p apos cpos spos : Pos} {x : Str} {i j : Nat}
/-- x = [], a list that will hold own lists -/
theorem s_nnew {p : Pos} (hN : X.N.Nodup) (hi : X.N[i]? = some x) (hx : Loc X.env.scope x) (hf : X.fn x = true ∨ X.env.scope.names.lookup x = some .local) (he : PE X e' (tE X.K P cl W (.lst []))) (hs : swapsWith e' (some (.Name x p)) pos.line X.env = pure false) :
    PS X (.Assign [.Name x p] e' pos) (tS X.K P cl W (.nnew i)) := by
  refine psI (ps_set hN hi hx he hs hf) fun D σ H ⟨S0, LL, ρ, k, R, hw, hk⟩ => ⟨S0, LL, ρ, fun d => d = .list [], fun _ _ => False, R, rfl, fun d v H' s r q => ?_, fun _ _ _ _ _ _ _ z => z.elim⟩
  · subst q
    obtain ⟨a, vs, rfl, hn, ha, rv⟩ := r.2 rfl [] rfl
    have : vs = [] := by simpa only [Rps] using rv
    subst this
    have na : ∀ j, a ∉ LL j := fun j h => by
      obtain ⟨_, ys, z⟩ := R.own j a h
      rw [hn] at z; cases z
    have R2 : Rel X.K P S0 (Lset LL i [a]) (ρ.set i (.nl [])) (σ.set i (some (.ref a))) H' := by
      refine R.put i _ _ [a] (fun b o eb h => ⟨h.1, fun j hj => ?_⟩) (.of_same s) (fun j _ b hb => ?_) ⟨a, [], rfl, rfl, by simp, ha, trivial⟩ (fun b hb => ?_) fun b h => same_none s h
      · by_cases ej : j = i
        · subst ej
          rw [Lset_same] at hj
          rw [List.mem_singleton.mp hj, hn] at eb
          cases eb
        · rw [Lset_ne ej] at hj; exact h.2 j hj
      · obtain ⟨_, ys, z⟩ := R.own j b hb
        rw [z, s b _ z]
      · rw [List.mem_singleton.mp hb]
        exact ⟨R.fr a hn, ⟨moL [], ha⟩, fun j _ => na j⟩
    exact hk.nx _ _ _ _ R2 (Fm.more s hn) hw
/-- x.append([]) -/
theorem s_napp (hi : X.N[i]? = some x) (hv : Vis X.env.scope x) (hd : (x == ("__debug__" : Str)) = false) (hcd : (x == ("__classdict__" : Str)) = false) (he : PE X e' (tE X.K P cl W (.lst []))) (hs : okE e' = true) (hl : (apos.endLine == cpos.line) = true) :
    PS X (.Expr (.Call (.Attribute (.Name x p) "append" apos) [e'] [] cpos) pos) (tS X.K P cl W (.napp i)) := by
  refine psI (ps_expr (pe_bm PySem.F.plainAttrs_list PySem.F.slot_list_append PySem.F.type_list_append mt_append (pe_var hi hv hd hcd) (pa_cons he pa_nil (okE_star hs)) rfl (by rw [okE_star hs]; rfl) hl (okE_star hs) rfl)) fun D σ H ⟨S0, LL, ρ, k, R, hw, hk⟩ => ?_
  unfold wS at hw
  cases eo : ρ[i]? with
  | none => rw [eo] at hw; exact hw.elim
  | some sl =>
    rw [eo] at hw
    cases sl <;> first | exact hw.elim | skip
    rename_i dss
    obtain ⟨hz, hn⟩ := hw
    obtain ⟨a, bs, es, eL, nd, ha, r⟩ := R.atN eo
    refine ⟨_, es, .inl ⟨rfl, _, SqL.of ha⟩, S0, LL, ρ, fun d => d = .list [], fun _ _ => False, R, rfl, fun d v H1 s1 r1 q => ?_, fun _ _ _ _ _ _ _ z => z.elim⟩
    subst q
    obtain ⟨b, vs, rfl, hb, hb1, rv⟩ := r1.2 rfl [] rfl
    have : vs = [] := by simpa only [Rps] using rv
    subst this
    obtain ⟨R3, F3⟩ := R.chgA s1 eo es eL hb hb1
    exact ⟨a, _, _, rfl, rfl, s1 a _ ha, by rw [List.length_map, r.len]; exact hz, hk.nx _ _ _ _ R3 F3 hn⟩
/-- x[a].append(e) -/
theorem s_nadd (hi : X.N[i]? = some x) (hv : Vis X.env.scope x) (hd : (x == ("__debug__" : Str)) = false) (hcd : (x == ("__classdict__" : Str)) = false) (ha' : PE X a' (tE X.K P cl W a)) (hm : PlainIx a') (he : PE X e' (tE X.K P cl W e)) (hs : okE e' = true) (hl : (apos.endLine == cpos.line) = true) :
    PS X (.Expr (.Call (.Attribute (.Subscript (.Name x p) a' spos) "append" apos) [e'] [] cpos) pos) (tS X.K P cl W (.nadd i a e)) := by
  refine psI (ps_expr (pe_bm PySem.F.plainAttrs_list PySem.F.slot_list_append PySem.F.type_list_append mt_append (pe_ix ix_list (pe_var hi hv hd hcd) ha' hm) (pa_cons he pa_nil (okE_star hs)) rfl (by rw [okE_star hs]; rfl) hl (okE_star hs) rfl)) fun D σ H ⟨S0, LL, ρ, k, R, hw, hk⟩ => ?_
  unfold wS at hw
  cases eo : ρ[i]? with
  | none => rw [eo] at hw; exact hw.elim
  | some sl =>
    rw [eo] at hw
    cases sl <;> first | exact hw.elim | skip
    rename_i dss
    obtain ⟨l, bs, es, eL, nd, ha, r⟩ := R.atN eo
    refine ⟨_, es, S0, LL, ρ, _, _, R, hw, fun y w H1 s1 r1 q1 => ?_, exE R hk⟩
    cases y <;> first | exact q1.elim | skip
    rename_i j
    obtain ⟨n, ds, hn, hds, hz, hwe⟩ := q1
    have ew := r1.1.int_
    subst ew
    have R1 := R.same s1
    obtain ⟨l1, bs1, es1, eL1, nd1, ha1, r1'⟩ := R1.atN eo
    rw [es] at es1
    cases es1
    rw [eL] at eL1
    cases eL1
    obtain ⟨b, xs, eb, hb, rb⟩ := r1'.get hds
    have hat : L2.atI (bs.map V.ref) j = some (.ref b) := by
      unfold L2.atI
      rw [List.length_map, r.len, hn]
      simp [eb]
    refine ⟨l, bs.map V.ref, j, .ref b, rfl, rfl, SqL.of ha1, hat, .inl ⟨rfl, xs, SqL.of hb⟩, S0, LL, ρ, _, _, R1, hwe, fun d v H2 s2 r2 q2 => ?_, fun c fs cv dx H' s x q => hk.ex c fs cv dx LL ρ σ H' (R1.same s) (Fm.of_same (sq_ s1 s)) x q⟩
    obtain ⟨hnl, hnx⟩ := q2
    have R2 := R1.same s2
    have hb2 := s2 b _ hb
    obtain ⟨R3, F3⟩ := R2.chgN (ds' := ds ++ [d]) eo es eL eb hb2 ((rb.same s2).append (.one (Rp.noL _ _ hnl r2.1)))
    refine ⟨b, xs, v, rfl, rfl, hb2, by rw [← rb.length]; exact hz, ?_⟩
    exact hk.nx _ _ _ _ R3 ((Fm.of_same (sq_ s1 s2)).trans F3) hnx
end
end Uq

set_option maxHeartbeats 2000000
/-! Uq, part o3: lists of own lists by a comprehension; own dicts; a, b = x.pop(). -/
namespace Uq
open PySem PySem.Spec PyProof.Rows L2
theorem RNl.snocE {K : PySem.W.Frag} {S : Addr → Prop} {H : Hp} {b : Addr} {xs : List V} {ds : List D} (hb : H b = some (.lst xs)) (r : Rps K S H ds xs) : ∀ {bs : List Addr} {dss : List (List D)}, RNl K S H bs dss → RNl K S H (bs ++ [b]) (dss ++ [ds])
  | [], [], _ => ⟨⟨xs, hb, r⟩, trivial⟩
  | [], _ :: _, h => h.elim
  | _ :: _, [], h => h.elim
  | _ :: bs, _ :: dss, h => ⟨h.1, h.2.snocE hb r⟩
/-- no list lies within -/
theorem RNl.noL {K : PySem.W.Frag} {S S' : Addr → Prop} {H : Hp} : ∀ {bs : List Addr} {dss : List (List D)}, (∀ ds ∈ dss, noLs ds = true) → RNl K S H bs dss → RNl K S' H bs dss
  | [], [], _, _ => trivial
  | [], _ :: _, _, h => h.elim
  | _ :: _, [], _, h => h.elim
  | _ :: bs, ds :: dss, n, ⟨⟨xs, hx, r⟩, h⟩ => ⟨⟨xs, hx, Rps.noL _ _ (n ds List.mem_cons_self) r⟩, RNl.noL (fun d hd => n d (List.mem_cons_of_mem _ hd)) h⟩
section
variable {K : PySem.W.Frag} {P : Pg} {S0 : Addr → Prop} {LL : Ow} {ρ : Env} {σ : L2.St} {H H1 : Hp} {i n : Nat}
/-- one more own list, with what it holds -/
theorem Rel.chgE {Hs : Hp} (R : Rel K P S0 LL ρ σ Hs) (s : Same Hs H) {dss : List (List D)} {ds : List D} {ys : List V} {a b : Addr} {bs : List Addr} (e : ρ[i]? = some (.nl dss)) (es : σ[i]? = some (some (.ref a))) (eL : LL i = a :: bs) (hn : Hs b = none) (hb : H b = some (.lst ys))
    (nl : noLs ds = true) (ry : Rps K (fun _ => True) H ds ys) :
    Rel K P S0 (Lset LL i (a :: (bs ++ [b]))) (ρ.set i (.nl (dss ++ [ds]))) σ (upd H a (.lst (bs.map V.ref ++ [.ref b]))) ∧ Fm LL Hs (Lset LL i (a :: (bs ++ [b]))) (upd H a (.lst (bs.map V.ref ++ [.ref b]))) := by
  obtain ⟨a', bs', es', eL', nd, ha, r⟩ := R.atN e
  rw [es] at es'
  cases es'
  rw [eL] at eL'
  cases eL'
  have am : a ∈ LL i := by rw [eL]; exact List.mem_cons_self
  have nb : ∀ j, b ∉ LL j := fun j h => by
    obtain ⟨_, ys, z⟩ := R.own j b h
    rw [hn] at z; cases z
  have hab : a ≠ b := fun z => nb i (by rw [← z]; exact am)
  have na : ∀ c, SS S0 LL c → c ≠ a := fun c h z => h.2 i (by rw [z]; exact am)
  have ha1 : H a = some (.lst (bs.map V.ref)) := s a _ ha
  have inL : ∀ c, c ∈ a :: (bs ++ [b]) ↔ c ∈ LL i ∨ c = b := fun c => by rw [eL]; simp [or_assoc]
  have sub : ∀ c, SS S0 LL c → c ≠ b → SS S0 (Lset LL i (a :: (bs ++ [b]))) c := fun c h n => ⟨h.1, fun j hj => by
    by_cases ej : j = i
    · subst ej
      rw [Lset_same] at hj
      rcases (inL c).mp hj with z | z
      · exact h.2 j z
      · exact n z
    · rw [Lset_ne ej] at hj; exact h.2 j hj⟩
  have kp : Kp (SS S0 LL) Hs (upd H a (.lst (bs.map V.ref ++ [.ref b]))) := fun c o ec h => by
    rw [upd_ne]
    · exact s c o ec
    · rintro rfl
      rcases h with h | h
      · exact na _ h rfl
      · rw [ha] at ec; cases ec; exact h (moL _) rfl
  have kp0 : Kp (fun _ => False) H (upd H a (.lst (bs.map V.ref ++ [.ref b]))) := fun c o ec h => by
    rw [upd_ne]
    · exact ec
    · rintro rfl
      rcases h with h | h
      · exact h.elim
      · rw [ha1] at ec; cases ec; exact h (moL _) rfl
  have Z := R.put (H' := upd H a (.lst (bs.map V.ref ++ [.ref b]))) i (.nl (dss ++ [ds])) (some (.ref a)) (a :: (bs ++ [b])) (fun c o ec h => sub c h (ne_of_none ec hn)) kp (fun j hj c hc => ?_) ?_ (fun c hc => ?_) (fun c h => ?_)
  · rw [set_id es] at Z
    refine ⟨Z, fun c o ec h => ?_, fun j c h => ?_⟩
    · rw [upd_ne]
      · exact s c o ec
      · rintro rfl
        exact h i am
    · by_cases ej : j = i
      · subst ej
        rw [Lset_same] at h
        rcases (inL c).mp h with z | rfl
        · exact .inl ⟨j, z⟩
        · exact .inr hn
      · rw [Lset_ne ej] at h
        exact .inl ⟨j, h⟩
  · obtain ⟨_, xs, z⟩ := R.own j c hc
    rw [upd_ne, z, s c _ z]
    rintro rfl
    exact hj (R.dj j i _ hc am)
  · refine ⟨a, bs ++ [b], rfl, rfl, ?_, by rw [upd_same, List.map_append]; rfl, ?_⟩
    · have e2 : a :: (bs ++ [b]) = (a :: bs) ++ [b] := rfl
      rw [e2]
      refine List.nodup_append.mpr ⟨nd, by simp, fun x hx y hy => ?_⟩
      rw [List.mem_singleton] at hy
      subst hy
      rintro rfl
      exact nb i (by rw [eL]; exact hx)
    · refine RNl.snocE (by rw [upd_ne hab.symm]; exact hb) (Rps.mono (S := fun _ => False) (fun _ _ _ h => h.elim) kp0 _ _ (Rps.noL _ _ nl ry)) (r.mono (fun c o ec h => sub c h (ne_of_none ec hn)) kp fun c hc => ?_)
      obtain ⟨_, xs, z⟩ := R.own i c (by rw [eL]; exact List.mem_cons_of_mem _ hc)
      rw [upd_ne, z, s c _ z]
      rintro rfl
      exact (List.nodup_cons.mp nd).1 hc
  · rcases (inL c).mp hc with z | rfl
    · refine ⟨(R.own i c z).1, ?_, fun j hj hb' => hj (R.dj j i c hb' z)⟩
      by_cases ec : c = a
      · subst ec; exact ⟨moL _, upd_same⟩
      · obtain ⟨_, xs, q⟩ := R.own i c z
        exact ⟨xs, by rw [upd_ne ec]; exact s c _ q⟩
    · exact ⟨R.fr c hn, ⟨moL _, by rw [upd_ne hab.symm]; exact hb⟩, fun j _ => nb j⟩
  · by_cases ec : c = a
    · subst ec; rw [upd_same] at h; cases h
    · rw [upd_ne ec] at h; exact same_none s h
/-- a dict's entry is put -/
theorem Rel.chgD (R : Rel K P S0 LL ρ σ H) {t : Bool} {kvs : List (List Int × D)} {ns : List Int} {d : D} {y v : V} (e : ρ[i]? = some (.dc t kvs)) (hk : KeyV H t ns y) (nl : noL d = true) (rv : Rp K (fun _ => True) H d v) (hl : kvs.length < sizeLine) :
    ∃ a H', σ[i]? = some (some (.ref a)) ∧ DPut H a y v H' ∧ Rel K P S0 LL (ρ.set i (.dc t (putD kvs ns d))) σ H' ∧ Fm LL H LL H' := by
  obtain ⟨a, en, es, eL, ha, r⟩ := R.atD e
  obtain ⟨o, hp, ha'⟩ := ha.put (v := v) hk (by rw [← r.len]; exact hl)
  obtain ⟨m0, hm0⟩ := ha.mu
  have am : a ∈ LL i := by rw [eL]; exact List.mem_cons_self
  have kp : ∀ S : Addr → Prop, (∀ c, S c → c ≠ a) → Kp S H (upd H a o.1) := fun S hS c u ec h => by
    rw [upd_ne]
    · exact ec
    · rintro rfl
      rcases h with h | h
      · exact hS _ h rfl
      · rw [hm0] at ec; cases ec; exact h m0 rfl
  have kp1 := kp (SS S0 LL) fun c h z => h.2 i (by rw [z]; exact am)
  refine ⟨a, _, es, hp, ?_⟩
  have Z := R.put (H' := upd H a o.1) i (.dc t (putD kvs ns d)) (some (.ref a)) (LL i) (fun c _ _ h => by rw [Lset_id]; exact h) kp1 (fun j hj c hc => ?_) ?_ (fun c hc => ?_) (fun c h => ?_)
  · rw [Lset_id, set_id es] at Z
    refine ⟨Z, fun c u ec h => ?_, fun j c h => .inl ⟨j, h⟩⟩
    rw [upd_ne]
    · exact ec
    · rintro rfl
      exact h i am
  · rw [upd_ne]
    rintro rfl
    exact hj (R.dj j i _ hc am)
  · rw [Lset_id]
    exact ⟨a, _, rfl, eL, ha', REn.put nl (Rp.mono (S := fun _ => False) (fun _ _ _ h => h.elim) (kp (fun _ => False) fun _ h => h.elim) _ _ (Rp.noL _ _ nl rv)) ns (r.mono (fun _ _ _ h => h) kp1)⟩
  · refine ⟨(R.own i c hc).1, ?_, fun j hj hb' => hj (R.dj j i c hb' hc)⟩
    by_cases ec : c = a
    · subst ec; exact ⟨o, upd_same⟩
    · rw [upd_ne ec]; exact (R.own i c hc).2
  · by_cases ec : c = a
    · subst ec; rw [upd_same] at h; cases h
    · rw [upd_ne ec] at h; exact h
end
section
variable {X : Cx} {P : Pg} {cl : Cl} {W : WX} {e' a' : Expr} {e a : C} {pos p apos cpos spos : Pos} {x : Str} {i j : Nat} {es : List C} {t : Bool}
/-- x.append(e), e a new list -/
theorem s_nappE (hi : X.N[i]? = some x) (hv : Vis X.env.scope x) (hd : (x == ("__debug__" : Str)) = false) (hcd : (x == ("__classdict__" : Str)) = false) (he : PE X e' (tE X.K P cl W e)) (hs : okE e' = true) (hl : (apos.endLine == cpos.line) = true) :
    PS X (.Expr (.Call (.Attribute (.Name x p) "append" apos) [e'] [] cpos) pos) (tS X.K P cl W (.nappE i e)) := by
  refine psI (ps_expr (pe_bm PySem.F.plainAttrs_list PySem.F.slot_list_append PySem.F.type_list_append mt_append (pe_var hi hv hd hcd) (pa_cons he pa_nil (okE_star hs)) rfl (by rw [okE_star hs]; rfl) hl (okE_star hs) rfl)) fun D σ H ⟨S0, LL, ρ, k, R, hw, hk⟩ => ?_
  unfold wS at hw
  obtain ⟨hf, hw⟩ := hw
  cases eo : ρ[i]? with
  | none => rw [eo] at hw; exact hw.elim
  | some sl =>
    rw [eo] at hw
    cases sl <;> first | exact hw.elim | skip
    rename_i dss
    obtain ⟨a, bs, es, eL, nd, ha, r⟩ := R.atN eo
    refine ⟨_, es, .inl ⟨rfl, _, SqL.of ha⟩, S0, LL, ρ, _, _, R, hw, fun d v H1 s1 r1 q => ?_, exE R hk⟩
    cases d <;> first | exact q.elim | skip
    obtain ⟨nl, hz, hn⟩ := q
    obtain ⟨b, vs, rfl, hb, hb1, rv⟩ := r1.2 hf _ rfl
    obtain ⟨R3, F3⟩ := R.chgE s1 eo es eL hb hb1 nl (rv.wide fun _ _ _ _ => trivial)
    exact ⟨a, _, _, rfl, rfl, s1 a _ ha, by rw [List.length_map, r.len]; exact hz, hk.nx _ _ _ _ R3 F3 hn⟩
/-- x = {} -/
theorem s_dnew {p : Pos} (hN : X.N.Nodup) (hi : X.N[i]? = some x) (hx : Loc X.env.scope x) (hf : X.fn x = true ∨ X.env.scope.names.lookup x = some .local) : PS X (.Assign [.Name x p] (.Dict [] [] cpos) pos) (tS X.K P cl W (.dnew i t)) := by
  have fin : ∀ {D : Ends} {σ : L2.St} {H : Hp} {o : Mo} {a : Addr}, tS X.K P cl W (.dnew i t) D σ H → H a = none → DcAt (upd H a o.1) a t [] → D.nx (σ.set i (some (.ref a))) (upd H a o.1) := fun {D σ H o a} h hn hd => by
    obtain ⟨S0, LL, ρ, k, R, hw, hk⟩ := h
    have na : ∀ j, a ∉ LL j := fun j h => by
      obtain ⟨_, ys, z⟩ := R.own j a h
      rw [hn] at z; cases z
    have s : Same H (upd H a o.1) := same_upd hn
    have R2 : Rel X.K P S0 (Lset LL i [a]) (ρ.set i (.dc t [])) (σ.set i (some (.ref a))) (upd H a o.1) := by
      refine R.put i _ _ [a] (fun b o eb h => ⟨h.1, fun j hj => ?_⟩) (.of_same s) (fun j _ b hb => ?_) ⟨a, [], rfl, rfl, hd, trivial⟩ (fun b hb => ?_) fun b h => same_none s h
      · by_cases ej : j = i
        · subst ej
          rw [Lset_same] at hj
          rw [List.mem_singleton.mp hj, hn] at eb
          cases eb
        · rw [Lset_ne ej] at hj; exact h.2 j hj
      · obtain ⟨_, ys, z⟩ := R.own j b hb
        rw [z, s b _ z]
      · rw [List.mem_singleton.mp hb]
        exact ⟨R.fr a hn, ⟨o, upd_same⟩, fun j _ => na j⟩
    exact hk.nx _ _ _ _ R2 (Fm.more s hn) hw
  cases t with
  | true => exact psI (ps_set hN hi hx pe_dnewT rfl hf) fun D σ H h => fun a ha => fin (o := ⟨_, .inr (.inr ⟨_, rfl⟩)⟩) h ha upd_same
  | false => exact psI (ps_set hN hi hx pe_dnewK rfl hf) fun D σ H h => fun a ha => fin (o := ⟨_, .inr (.inl ⟨_, rfl⟩)⟩) h ha ⟨[], upd_same, rfl⟩
/-- x[a] = e, a dict's entry -/
theorem s_dput (hu : X.A.units + 1 < cLine) (hi : X.N[i]? = some x) (hv : Vis X.env.scope x) (hd : (x == ("__debug__" : Str)) = false) (hcd : (x == ("__classdict__" : Str)) = false) (ha : PE X a' (tKey X.K P cl W t es)) (he : PE X e' (tE X.K P cl W e)) (hp : plainV e' = true) :
    PS X (.Assign [.Subscript (.Name x p) a' spos] e' pos) (tS X.K P cl W (.dput i t es e)) := by
  refine psI (ps_dput hu (pe_var hi hv hd hcd) ha he (sw_plain hp)) fun D σ H ⟨S0, LL, ρ, k, R, hw, hk⟩ => ⟨S0, LL, ρ, _, _, R, hw, fun d v H1 s1 r1 q => ?_, exE R hk⟩
  obtain ⟨nl, q⟩ := q
  cases eo : ρ[i]? with
  | none => rw [eo] at q; exact q.elim
  | some sl =>
    rw [eo] at q
    cases sl <;> first | exact q.elim | skip
    obtain ⟨rfl, q⟩ := q
    have R1 := R.same s1
    obtain ⟨l, en, el, _⟩ := R1.atD eo
    refine ⟨_, el, ?_⟩
    refine ⟨S0, LL, ρ, _, _, R1, q, fun vs ⟨h1, ns, h2, h3, h4⟩ => ⟨ns, h2, h1, fun y H' s hkey => ?_⟩, fun c fs cv dx H' s x q => hk.ex c fs cv dx LL ρ σ H' (R1.same s) (Fm.of_same (sq_ s1 s)) x q⟩
    obtain ⟨l2, H2, el2, hput, R2, F2⟩ := (R1.same s).chgD eo hkey nl ((r1.1.wide fun _ _ _ _ => trivial).same s) h3
    rw [el] at el2
    cases el2
    exact ⟨l, H2, rfl, hput, hk.nx _ _ _ _ R2 ((Fm.of_same (sq_ s1 s)).trans F2) h4⟩
/-- a, b = x.pop() -/
theorem s_popU {is : List Nat} {tg : Expr} (hi : X.N[i]? = some x) (hv : Vis X.env.scope x) (hd : (x == ("__debug__" : Str)) = false) (hcd : (x == ("__classdict__" : Str)) = false) (hl : (apos.endLine == cpos.line) = true) (hg : PG X tg (gTg X.K (.tp is)))
    (hs : swapsWithSole [tg] (.Call (.Attribute (.Name x p) "pop" apos) [] [] cpos) pos.line X.env = pure false) (hw : swappedStores [tg] (.Call (.Attribute (.Name x p) "pop" apos) [] [] cpos) X.env = pure none) (h1 : (assignEach [tg] X.env).map (·.2) = [assign tg X.env]) :
    PS X (.Assign [tg] (.Call (.Attribute (.Name x p) "pop" apos) [] [] cpos) pos) (tS X.K P cl W (.popU is i)) := by
  refine psI (ps_asg (pe_bm0 PySem.F.plainAttrs_list PySem.F.slot_list_pop PySem.F.type_list_pop mt_pop (pe_var hi hv hd hcd) rfl hl) hg hs hw h1) fun D σ H ⟨S0, LL, ρ, k, R, hw, hk⟩ => ?_
  unfold wS at hw
  cases eo : ρ[i]? with
  | none => rw [eo] at hw; exact hw.elim
  | some sl =>
    rw [eo] at hw
    cases sl <;> first | exact hw.elim | skip
    rename_i ds
    obtain ⟨d, ed, hn⟩ := hw
    obtain ⟨l, xs0, h1, _⟩ := own_at R eo
    obtain ⟨xs, g1, g2⟩ := own_rd R eo h1
    obtain ⟨v, ey, ry⟩ := g2.get (last_at ed)
    obtain ⟨l', xs', k1, k2, k3, k4⟩ := R.chg (ds' := ds.dropLast) i eo
    rw [h1] at k1
    cases k1
    rw [g1] at k2
    cases k2
    obtain ⟨R3, F3⟩ := k4 xs.dropLast H (Same.refl _) g2.dropLast
    have rv : Rp X.K (SS S0 LL) (upd H l (.lst xs.dropLast)) d v := by
      have kp : Kp (SS S0 LL) H (upd H l (.lst xs.dropLast)) := fun b o eb h => by
        have nb : b ≠ l := by
          rintro rfl
          rcases h with h | h
          · obtain ⟨a, ys, z1, z2, _⟩ := R.slot i _ eo
            have z1 : σ[i]?.join = some (.ref a) := z1
            rw [h1] at z1
            cases z1
            exact h.2 i (by rw [z2]; exact List.mem_cons_self)
          · rw [g1] at eb; cases eb; exact h (moL _) rfl
        rw [upd_ne nb]; exact eb
      exact Rp.mono (fun _ _ _ h => h) kp _ _ ry
    refine ⟨_, h1, .inl ⟨rfl, xs, SqL.of g1⟩, l, xs, v, rfl, rfl, g1, by rw [← g2.length]; exact ey, ?_⟩
    have hn : tgR (.tp is) d (ρ.set i (.ol ds.dropLast)) k.nx := by
      cases d <;> first | exact hn | exact hn.elim
    exact tg_read (t := .tp is) R3 rv hn fun LL' ρ' σ' S hρ => hk.nx _ _ _ _ S.rel (F3.trans S.fm) hρ
/-- x = [e for t in it], each e a new list -/
theorem nl_read {K : PySem.W.Frag} {t : Tg} {kd : IK} {D : Ends} {σ : L2.St} {H : Hp} (h : tS K P cl W (.nlc i e t kd es) D σ H) :
    tLc (tI K P cl W kd es) (gTg K t) (tTs K P cl []) (tE K P cl W0 e) (tgI t) σ H fun v H' => D.nx (σ.set i (some v)) H' := by
  obtain ⟨S0, LL, ρ, k, R, hw, hk⟩ := h
  obtain ⟨hf, hw⟩ := hw
  refine ⟨S0, LL, ρ, _, _, R, hw, fun ds J H1 s1 wk h1 => fun Z hZ => ?_, exE R hk⟩
  have R1 : Rel K P S0 (Lfrz (Lfrz LL (fzNm kd es)) (tgI t)) (kil (tgI t) (frzIt kd es ρ)) (wipe σ (tgI t)) H1 := by
    rw [frzIt_eq]
    exact ((R.same s1).frzL _).kil _ (wipe_length _ _) fun j hj => wipe_out hj
  have R0 : Rel K P S0 (Lfrz LL (fzNm kd es)) (frzIt kd es ρ) σ H1 := by
    rw [frzIt_eq]
    exact (R.same s1).frzL _
  have F0 : Fm LL H (Lfrz LL (fzNm kd es)) H1 := (Fm.of_same s1).trans Fm.frz
  have wk0 : Wk K (SS S0 (Lfrz (Lfrz LL (fzNm kd es)) (tgI t))) J H1 ds := fun S' hS => wk S' fun a o e z => hS a o e z.frz.frz
  generalize Lfrz (Lfrz LL (fzNm kd es)) (tgI t) = L2 at R1 wk0
  generalize Lfrz LL (fzNm kd es) = L1 at R0 F0
  generalize kil (tgI t) (frzIt kd es ρ) = ρ2 at R1 h1
  generalize frzIt kd es ρ = ρ1 at R0 h1
  generalize hF : (fun dss : List (List Uq.D) => k.nx (ρ1.set i (.nl dss))) = F at h1
  refine ⟨fun j m H2 => m = ds.length - j ∧ ∃ bs dss, Same H1 H2 ∧ H2 Z = some (.lst (bs.map V.ref)) ∧ RNl K (fun _ => False) H2 bs dss ∧ (∀ xs ∈ dss, noLs xs = true) ∧ (Z :: bs).Nodup ∧ (∀ b ∈ bs, H1 b = none) ∧
      nlW (fun ρ' q => wE cl e ρ' q fun _ _ => False) t ρ2 (ds.drop j) dss F, ⟨_, rfl, [], [], same_upd hZ, upd_same, trivial, (fun xs h => absurd h List.not_mem_nil), by simp, (fun b h => absurd h List.not_mem_nil), h1⟩, ?_⟩
  rintro j m H2 ⟨rfl, bs, dss, s2, hz2, rn, hnl, nd, fr, hl⟩
  have w := wk0 (SS (fun a => S0 a ∧ a ≠ Z) L2) (fun a o ea z => ⟨⟨z.1, ne_of_none ea hZ⟩, z.2⟩) H2 j (.of_same s2)
  cases ed : ds[j]? with
  | none =>
    have hj : ds.length ≤ j := by rw [List.getElem?_eq_none_iff] at ed; exact ed
    rw [List.drop_eq_nil_of_le hj] at hl
    have hl : F dss := hl
    rw [← hF] at hl
    refine .inl ⟨w.2 hj, ?_⟩
    have nz : ∀ b ∈ Z :: bs, H1 b = none := fun b hb => (List.mem_cons.mp hb).elim (fun z => by rw [z]; exact hZ) (fr b)
    have na : ∀ b ∈ Z :: bs, ∀ l, b ∉ L1 l := fun b hb l h => by
      obtain ⟨_, ys, z⟩ := R0.own l b h
      rw [nz b hb] at z; cases z
    have R2 : Rel K P S0 (Lset L1 i (Z :: bs)) (ρ1.set i (.nl dss)) (σ.set i (some (.ref Z))) H2 := by
      refine R0.put i _ _ (Z :: bs) (fun b o eb h => ⟨h.1, fun l hl => ?_⟩) (.of_same s2) (fun l _ b hb => ?_) ⟨Z, bs, rfl, rfl, nd, hz2, rn.noL hnl⟩ (fun b hb => ?_) fun b h => same_none s2 h
      · by_cases ej : l = i
        · subst ej
          rw [Lset_same] at hl
          rw [nz b hl] at eb
          cases eb
        · rw [Lset_ne ej] at hl; exact h.2 l hl
      · obtain ⟨_, ys, z⟩ := R0.own l b hb
        rw [z, s2 b _ z]
      · refine ⟨R0.fr b (nz b hb), ?_, fun l _ => na b hb l⟩
        rcases List.mem_cons.mp hb with rfl | hb
        · exact ⟨moL _, hz2⟩
        · obtain ⟨xs, hx⟩ := rn.lst b hb
          exact ⟨moL xs, hx⟩
    refine hk.nx _ _ _ _ R2 (F0.trans ⟨fun b o e _ => s2 b o e, fun l b h => ?_⟩) hl
    by_cases ej : l = i
    · subst ej; rw [Lset_same] at h; exact .inr (nz b h)
    · rw [Lset_ne ej] at h; exact .inl ⟨l, h⟩
  | some d =>
    have hj : j < ds.length := (List.getElem?_eq_some_iff.mp ed).1
    obtain ⟨wg, wy⟩ := w.1 d ed
    have hdr : ds.drop j = d :: ds.drop (j + 1) := by
      rw [List.drop_eq_getElem_cons hj]
      congr 1
      rw [List.getElem?_eq_getElem hj] at ed
      exact Option.some.inj ed
    rw [hdr] at hl
    have hl : tgR t d ρ2 fun ρ' => wE cl e ρ' (fun v => match v with
      | .list xs => noLs xs = true ∧ dss.length < sizeLine ∧ nlW (fun ρ' q => wE cl e ρ' q fun _ _ => False) t ρ2 (ds.drop (j + 1)) (dss ++ [xs]) F
      | _ => False) (fun _ _ => False) := hl
    refine .inr ⟨wg, fun H' => ∃ bs dss, Same H1 H' ∧ H' Z = some (.lst (bs.map V.ref)) ∧ RNl K (fun _ => False) H' bs dss ∧ (∀ xs ∈ dss, noLs xs = true) ∧ (Z :: bs).Nodup ∧ (∀ b ∈ bs, H1 b = none) ∧
      nlW (fun ρ' q => wE cl e ρ' q fun _ _ => False) t ρ2 (ds.drop (j + 1)) dss F, fun H' hH => ⟨ds.length - (j + 1), by omega, rfl, hH⟩, fun x H3 hy => ?_⟩
    obtain ⟨s3, rx⟩ := wy x H3 hy
    have hz3 := s3 Z _ hz2
    have s13 : Same H1 H3 := sq_ s2 s3
    have R3 : Rel K P (fun a => S0 a ∧ a ≠ Z) L2 ρ2 (wipe σ (tgI t)) H3 := R1.but hZ s13 ⟨_, hz3⟩
    refine tg_read R3 rx hl fun LL' ρ' σ' St hρ' => ?_
    have ew := (wipe_eq St.ln St.out).trans (wipe_eq (wipe_length σ (tgI t)) fun j hj => wipe_out hj)
    refine ⟨ew, (fun a => S0 a ∧ a ≠ Z), LL', ρ', (fun b => b = true), St.rel, rfl, fun b H4 s4 hb => ?_⟩
    subst hb
    have hz4 := s4 Z _ hz3
    have s14 : Same H1 H4 := sq_ s13 s4
    refine ⟨_, LL', ρ', _, _, St.rel.same s4, hρ', fun v y H5 s5 rv hv => ?_, fun k fs cv dx H' s x h => h.elim⟩
    cases v <;> first | exact hv.elim | skip
    rename_i xs
    obtain ⟨nx, hz, hv⟩ := hv
    obtain ⟨c, vs, rfl, hc4, hc5, rc⟩ := rv.2 hf _ rfl
    have hz5 := s5 Z _ hz4
    have s15 : Same H1 H5 := sq_ s14 s5
    have s25 : Same H2 H5 := sq_ (sq_ s3 s4) s5
    have ncZ : c ≠ Z := fun z => by rw [z, hz4] at hc4; cases hc4
    have ncb : c ∉ bs := fun z => by
      obtain ⟨ys, hy⟩ := rn.lst c z
      rw [(sq_ s3 s4) c _ hy] at hc4; cases hc4
    have hn := List.nodup_cons.mp nd
    have kp : Kp (fun _ => False) H5 (upd H5 Z (.lst (bs.map V.ref ++ [.ref c]))) := fun a o ea h => by
      rw [upd_ne]
      · exact ea
      · rintro rfl
        rcases h with h | h
        · exact h.elim
        · rw [hz5] at ea; cases ea; exact h (moL _) rfl
    refine ⟨bs.map V.ref, hz5, by rw [List.length_map, rn.len]; exact hz, bs ++ [c], dss ++ [xs], ?_, by rw [upd_same, List.map_append]; rfl, ?_, ?_, ?_, ?_, hv⟩
    · exact fun a o ea => by
        rw [upd_ne (ne_of_none ea hZ)]
        exact s15 a o ea
    · refine RNl.snocE (by rw [upd_ne ncZ]; exact hc5) (Rps.mono (S := fun _ => False) (fun _ _ _ h => h) kp _ _ (Rps.noL _ _ nx rc)) ((rn.mono (S' := fun _ => False) (fun _ _ _ h => h) (.of_same s25) fun b hb => ?_).mono (fun _ _ _ h => h) kp fun b hb => ?_)
      · obtain ⟨ys, hy⟩ := rn.lst b hb
        rw [hy, s25 b _ hy]
      · rw [upd_ne]
        rintro rfl
        exact hn.1 hb
    · exact fun ys hy => (List.mem_append.mp hy).elim (hnl ys) fun z => by rw [List.mem_singleton.mp z]; exact nx
    · have e2 : Z :: (bs ++ [c]) = (Z :: bs) ++ [c] := rfl
      rw [e2]
      refine List.nodup_append.mpr ⟨nd, by simp, fun x hx y hy => ?_⟩
      rw [List.mem_singleton] at hy
      subst hy
      rintro rfl
      rcases List.mem_cons.mp hx with z | z
      · exact ncZ z
      · exact ncb z
    · exact fun b hb => (List.mem_append.mp hb).elim (fr b) fun z => by
        rw [List.mem_singleton.mp z]
        exact same_none s14 hc4
end
end Uq

set_option maxHeartbeats 1000000
/-! Uq, part p: loops. -/
namespace Uq
open PySem PySem.Spec PyProof.Rows L2
section
variable {X : Cx} {P : Pg} {cl : Cl} {W : WX} {tg it : Expr} {pos : Pos} {t : Tg} {kd : IK} {es : List C} {body : List S} {body' : List Stmt}
theorem fm_kp {Kf : PySem.W.Frag} {S0 : Addr → Prop} {LL LL' : Ow} {ρ : Env} {σ : L2.St} {H H' : Hp} (R : Rel Kf P S0 LL ρ σ H) (f : Fm LL H LL' H') {S : Addr → Prop} (hS : ∀ a, S a → SS S0 LL a) : Kp S H H' := fun a o e h => by
  refine f.1 a o e fun j hj => ?_
  rcases h with h | h
  · exact (hS a h).2 j hj
  · obtain ⟨_, xs, z⟩ := R.own j a hj
    rw [e] at z
    exact h xs (Option.some.inj z)
theorem s_fr (hp : PassesOwn (model X.prog X.w) X.A X.env X.xe) (hc : X.calm = true) (hi : PI X tg it (tI X.K P cl W kd es)) (hg : PG X tg (gTg X.K t)) (hb : PSs X body' (tSs X.K P cl W body)) (hs : ∀ x, foldedSetIterable it X.env x = pure x) :
    PS X (.For tg it body' [] pos) (tS X.K P cl W (.fr t kd es body)) := by
  refine psI (ps_for hp hc hi hg hb hs) fun D σ H ⟨S0, LL, ρ, k, R, hw, hk⟩ => ⟨S0, LL, ρ, _, _, R, hw, fun ds J H1 s1 wk hl => ?_, exE R hk⟩
  have R1 : Rel X.K P S0 (Lfrz LL (fzNm kd es)) (frzIt kd es ρ) σ H1 := by
    rw [frzIt_eq]
    exact (R.same s1).frzL _
  have F1 : Fm LL H (Lfrz LL (fzNm kd es)) H1 := (Fm.of_same s1).trans Fm.frz
  have wk1 : Wk X.K (SS S0 (Lfrz LL (fzNm kd es))) J H1 ds := fun S' hS => wk S' fun a o e z => hS a o e z.frz
  generalize Lfrz LL (fzNm kd es) = L1 at R1 F1 wk1
  generalize frzIt kd es ρ = ρ1 at R1 hl
  have hk1 : EdOk X.K P W S0 L1 H1 k D := hk.from F1
  refine ⟨fun i m σ2 H2 => m = ds.length - i ∧ ∃ L2' ρ2, Rel X.K P S0 L2' ρ2 σ2 H2 ∧ Fm L1 H1 L2' H2 ∧ frW (wSs cl body) t k (ds.drop i) ρ2, ⟨_, rfl, L1, ρ1, R1, Fm.refl, hl⟩, ?_⟩
  rintro i m σ2 H2 ⟨rfl, L2', ρ2, R2, f2, h2⟩
  have w := wk1 (fun a => SS S0 L1 a ∧ H1 a ≠ none) (fun a o e z => ⟨z, fun y => by rw [e] at y; cases y⟩) H2 i (fm_kp R1 f2 fun a z => z.1)
  cases ed : ds[i]? with
  | none =>
    have hi' : ds.length ≤ i := by rw [List.getElem?_eq_none_iff] at ed; exact ed
    rw [List.drop_eq_nil_of_le hi'] at h2
    exact .inl ⟨w.2 hi', hk1.nx _ _ _ _ R2 f2 h2⟩
  | some d =>
    have hlt : i < ds.length := (List.getElem?_eq_some_iff.mp ed).1
    obtain ⟨wg, wy⟩ := w.1 d ed
    have hdr : ds.drop i = d :: ds.drop (i + 1) := by
      rw [List.drop_eq_getElem_cons hlt]
      congr 1
      rw [List.getElem?_eq_getElem hlt] at ed
      exact Option.some.inj ed
    rw [hdr] at h2
    refine .inr ⟨wg, fun σ3 H3 => ∃ L3 ρ3, Rel X.K P S0 L3 ρ3 σ3 H3 ∧ Fm L1 H1 L3 H3 ∧ frW (wSs cl body) t k (ds.drop (i + 1)) ρ3, fun σ3 H3 h3 => ⟨ds.length - (i + 1), by omega, rfl, h3⟩, fun x H3 hy => ?_⟩
    obtain ⟨s3, rx⟩ := wy x H3 hy
    have rx' : Rp X.K (SS S0 L2') H3 d x := rx.wide fun a o _ z => ⟨z.1.1, fun j hj => by
      rcases f2.2 j a hj with ⟨j', q⟩ | q
      · exact z.1.2 j' q
      · exact z.2 q⟩
    have h2 : tgR t d ρ2 fun ρ' => wSs cl body ρ' { k with nx := frW (wSs cl body) t k (ds.drop (i + 1)), ct := frW (wSs cl body) t k (ds.drop (i + 1)), bk := k.nx } := h2
    have f3 : Fm L1 H1 L2' H3 := f2.trans (Fm.of_same s3)
    refine tg_read (R2.same s3) rx' h2 fun L4 ρ4 σ4 St h4 => ⟨S0, L4, ρ4, _, St.rel, h4, ?_⟩
    have f4 : Fm L1 H1 L4 H3 := f3.trans St.fm
    exact ⟨fun _ _ _ _ R' f q => ⟨_, _, R', f4.trans f, q⟩, fun _ _ _ _ r f q => hk1.rt _ _ _ _ r (f4.trans f) q, fun _ _ _ _ R' f q => hk1.nx _ _ _ _ R' (f4.trans f) q, fun _ _ _ _ R' f q => ⟨_, _, R', f4.trans f, q⟩,
      fun _ _ _ _ _ _ _ _ R' f x q => hk1.ex _ _ _ _ _ _ _ _ R' (f4.trans f) x q⟩
theorem s_wh {c : C} {c' : Expr} (hp : PassesOwn (model X.prog X.w) X.A X.env X.xe) (hc : PT X c' (tT X.K P cl W c)) (hb : PSs X body' (tSs X.K P cl W body)) : PS X (.While c' body' [] pos) (tS X.K P cl W (.wh c body)) := by
  refine psI (ps_while hp hc hb) fun D σ H ⟨S0, LL, ρ, k, R, hw, hk⟩ => ?_
  obtain ⟨n, hw⟩ := hw
  refine ⟨fun m σ2 H2 => ∃ L2' ρ2, Rel X.K P S0 L2' ρ2 σ2 H2 ∧ Fm LL H L2' H2 ∧ whW (fun ρ q e => wT cl c ρ q fun c fs => e c fs ρ) (wSs cl body) k m ρ2, ⟨n, LL, ρ, R, Fm.refl, hw⟩, ?_⟩
  rintro m σ2 H2 ⟨L2', ρ2, R2, f2, h2⟩
  cases m with
  | zero => exact h2.elim
  | succ m =>
    refine ⟨S0, L2', ρ2, _, _, R2, h2, fun d H3 s3 h3 => truR_mono h3 fun b hb => ?_, fun c fs cv dx H' s x q => hk.ex c fs cv dx _ _ _ _ (R2.same s) (f2.trans (Fm.of_same s)) x q⟩
    have f3 : Fm LL H L2' H3 := f2.trans (Fm.of_same s3)
    cases b with
    | false => exact hk.nx _ _ _ _ (R2.same s3) f3 hb
    | true =>
      refine ⟨fun σ3 H3 => ∃ L3 ρ3, Rel X.K P S0 L3 ρ3 σ3 H3 ∧ Fm LL H L3 H3 ∧ whW (fun ρ q e => wT cl c ρ q fun c fs => e c fs ρ) (wSs cl body) k m ρ3, fun σ3 H4 h4 => ⟨m, Nat.lt_succ_self m, h4⟩, S0, L2', ρ2, _, R2.same s3, hb, ?_⟩
      exact ⟨fun _ _ _ _ R' f q => ⟨_, _, R', f3.trans f, q⟩, fun _ _ _ _ r f q => hk.rt _ _ _ _ r (f3.trans f) q, fun _ _ _ _ R' f q => hk.nx _ _ _ _ R' (f3.trans f) q, fun _ _ _ _ R' f q => ⟨_, _, R', f3.trans f, q⟩,
        fun _ _ _ _ _ _ _ _ R' f x q => hk.ex _ _ _ _ _ _ _ _ R' (f3.trans f) x q⟩
end
end Uq

set_option maxHeartbeats 1000000
/-! Uq, part q: raise. -/
namespace Uq
open PySem PySem.Spec PyProof.Rows L2
section
variable {cf : Cf} {P : Pg} {k : Nat} {cl : Cl} {X : Cx} {W : WX} {x : Str} {p pos cpos : Pos} {a' : Expr} {es : List Expr} {cs : List C} {c : Nat}
theorem s_rai (G : Gd X cf P cl k) (tk : Takes X W) (hg : Gl X x) (hx : cf.xcI x = some c) (hc : c ∈ P.rz) (hd : (x == ("__debug__" : Str)) = false) (ha : All2 (AEx X P cl W) cs (a' :: es)) (hl : cs.length ≤ 10) :
    PS X (.Raise (some (.Call (.Name x p) (a' :: es) [] cpos)) none pos) (tS X.K P cl W (.rai c cs)) := by
  obtain ⟨fI, fd, ps, i1, i2, i3, i4⟩ := (G.made c hc).ini
  have hr : Room (1 + 1) X.A := G.rm.mono G.k2
  have pa := args_pa ha
  have hpl : (backTo cpos (starEach es X.env)).any (·.1) = false := by cases ha with | cons _ zz => exact args_plain zz
  have hst : starEach (a' :: es) X.env = (false, eval a' X.env) :: starEach es X.env := by cases ha with | cons z _ => exact okE_star z.1
  refine psI (ps_raise G.calm tk (pmk_oex (G.made c hc).oex i1 i2 i3 hr i4 (ds := []) (dvs := []) .nil pass0 hg (G.xc x c hx) pa hd hst hpl)) fun D σ H ⟨S0, LL, ρ, kk, R, hw, hk⟩ => ⟨S0, LL, ρ, _, _, R, hw, fun ds vs H1 s1 r1 l1 q => ?_, exE R hk⟩
  obtain ⟨q1, q2, q3⟩ := q
  have hlen : vs.length = (P.flds c).length := by rw [← r1.length, q2, G.fl]
  refine ⟨by rw [← r1.length, l1]; omega, fun a hn => ?_⟩
  refine ⟨by simp [hlen], a, vs, by rw [List.append_nil], upd_same, fun d H2 hd2 hne h1 h2 h3 => ?_⟩
  have hd1 : H1 d = none := by rwa [upd_ne hne] at hd2
  refine ⟨rfl, d, _, h1, h2, hd1, ?_⟩
  have sm : Same H1 (upd (del H2 a) d (.xd ((P.flds c).zip vs).reverse)) := fun b o e => by
    have n1 : b ≠ d := fun z => by rw [z, hd1] at e; cases e
    have n2 : b ≠ a := fun z => by rw [z, hn] at e; cases e
    rw [upd_ne n1, del_ne n2, h3 b n2 n1, upd_ne n2]
    exact e
  have sm2 : Same H (upd (del H2 a) d (.xd ((P.flds c).zip vs).reverse)) := sq_ s1 sm
  exact hk.ex c ds _ _ LL ρ σ _ (R.same sm2) (Fm.of_same sm2) ⟨hc, d, vs, rfl, rfl, upd_same, q1, Rps.noL _ _ q1 (r1.same sm), by rw [q2, G.fl]⟩ q3
end
end Uq

set_option maxHeartbeats 2000000
/-! Uq, part r: try with several clauses, each with a name or without. -/
namespace Uq
open PySem PySem.Spec PyProof.Rows L2
abbrev HTs := Addr → Obj → TS
def hEnds (sl : Option Nat) (D : Ends) : Ends := match sl with
  | none => D
  | some i => { nx := fun τ G => D.nx (τ.set i none) G, rt := D.rt, bk := fun τ G => D.bk (τ.set i none) G, ct := fun τ G => D.ct (τ.set i none) G }
def hSlot (sl : Option Nat) (a : Addr) (σ : L2.St) : L2.St := match sl with
  | none => σ
  | some i => σ.set i (some (.ref a))
/-- what the clauses wish of an exception of the body -/
def wG (Kf : PySem.W.Frag) (Wout : WX) (D : Ends) : List (Value × Option Nat × HTs) → WX
  | [] => Wout
  | (c, sl, ts) :: r => fun cls d σ H => ∃ b, PySem.W.exmOne Kf cls c = some b ∧ (b = true → ∀ a oe, H a = none → oe.cls = cls → oe.dict = d → (∃ vs, oe.data = .fields vs) → ts a oe (hEnds sl D) (hSlot sl a σ) H) ∧ (b = false → wG Kf Wout D r cls d σ H)
def NmOk (X : Cx) (nm : Option Str) (sl : Option Nat) : Prop := match nm, sl with
  | none, none => True
  | some n, some i => X.N[i]? = some n ∧ X.env.kindOf n = some .local
  | _, _ => False
inductive HdG (X : Cx) : List ExceptHandler → List (Value × Option Nat × HTs) → Prop
  | nil : HdG X [] []
  | cons {x : Str} {c : Value} {nm : Option Str} {sl : Option Nat} {ts : HTs} {b0 : Stmt} {bs : List Stmt} {p1 p2 : Pos} {hds : List ExceptHandler} {l : List (Value × Option Nat × HTs)} (hc : Names X x c) (hn : NmOk X nm sl)
      (hsu : ∀ (a : Addr) (oe : Obj) (pn : List (Addr × Obj)), (∃ vs, oe.data = .fields vs) → PSs (X.suite a ((a, oe) :: pn)) (b0 :: bs) (ts a oe)) (r : HdG X hds l) :
      HdG X (.ExceptHandler (some (.Name x p1)) nm (b0 :: bs) p2 :: hds) ((c, sl, ts) :: l)
section
variable {X : Cx} {body : List Stmt} {h0 : ExceptHandler} {hds : List ExceptHandler} {l : List (Value × Option Nat × HTs)} {pos : Pos} {tb : WX → TS} {Wout : WX}
theorem ps_tryG (hstk : X.stack = X.env :: X.outer) (hfrm : X.env.frame = some X.env.locals) (hN : X.N.Nodup) (tk : Takes X Wout)
    (hb : ∀ (V : WX) (qn : List (Addr × Obj)) (ee : Value → Shared → Prop), Takes (X.tr qn ee) V → PassesOwn (model X.prog X.w) X.A X.env ee → PSs (X.tr qn ee) body (tb V))
    (hh : HdG X (h0 :: hds) l) : PS X (.Try body (h0 :: hds) [] [] pos) (fun D σ H => tb (wG X.K Wout D l) D σ H) := by
  refine ⟨fun pins s σ H D I hrd => ?_⟩
  have iok := I.ok
  have frm : X.A.frames = some (X.env :: X.outer) := by rw [iok.frames, hstk]
  refine wpAny_Try_except ?_
  have bodyRun := (hb (wG X.K Wout D l) (X.pn ++ pins) (fun ex t1 => wpAny (model X.prog X.w) X.A (noteFrame ex X.env) (fun _ t2 => wpAny (model X.prog X.w) X.A (setFlight ex none) (fun _ t3 =>
    wpAny (model X.prog X.w) X.A (handleBy ex X.env (h0 :: hds)) (SP X pins D) X.xe t3) X.xe t2) X.xe t1) (fun u t1 air => ?_) PassesOwn.looking).run [] s σ H D (I.toTry _) hrd
  · refine wpAny_mono bodyRun (fun fl t1 spq => ?_) fun ex t1 q => q
    cases fl with
    | next => obtain ⟨τ, G, J, q⟩ := spq; exact wpAny_execs_nil ⟨τ, G, J.ofTry iok, q⟩
    | brk => obtain ⟨τ, G, J, q⟩ := spq; exact ⟨τ, G, J.ofTry iok, q⟩
    | cont => obtain ⟨τ, G, J, q⟩ := spq; exact ⟨τ, G, J.ofTry iok, q⟩
    | ret u => obtain ⟨v, τ, G, J, rv, q⟩ := spq; exact ⟨v, τ, G, J.ofTry iok, rv, q⟩
  · obtain ⟨a, B, sI, pn1, τ, G, cls, dx, rfl, I1, nb, ups, sky, na, eos, abr, wish⟩ := air
    have I2 : Inv X pins τ G sI := I1.ofTry iok
    have sky2 : Sky B (X.env :: X.outer) a (Zc cls dx) X.env.locals t1.heap := by rw [← hstk]; exact sky
    show wpAny (model X.prog X.w) X.A (noteFrame (.ref a) X.env) _ _ t1
    refine Sky.land Zc.steady frm hfrm sky2 fun hp3 land3 up3 => ?_
    have I3 : Inv X pins τ G { t1 with heap := hp3 } := I2.landed nb land3.1 (ups.trans up3) eos abr
    obtain ⟨ob3, fv3, get3, zc3, dat3⟩ := land3.there
    have outF : ∀ {hq : Heap} {o : Obj} {fv : Array Value}, hq.FunFrames B (X.env :: X.outer) → hq.get? a = some o → o.data = .fields fv → a ∉ frs (X.env :: X.outer) := fun {hq o fv} ff ge dd hm => by
      obtain ⟨_, o2, ge2, nf⟩ := ff.mem hm
      rw [ge] at ge2
      cases ge2
      exact nf _ dd
    have nfr := outF land3.2.2.1 get3 dat3
    have aL : a ≠ X.env.locals := fun z => nfr (List.mem_filterMap.mpr ⟨X.env, List.mem_cons_self, by rw [hfrm, z]⟩)
    have aF : a ∉ X.fs := fun hm => by
      obtain ⟨fe, hfe, q⟩ := List.mem_filterMap.mp hm
      exact nfr (List.mem_filterMap.mpr ⟨fe, List.mem_cons_of_mem _ hfe, q⟩)
    have S3 := I3.suite get3 dat3 na aL aF
    have walk : ∀ {hq : List ExceptHandler} {lq : List (Value × Option Nat × HTs)}, HdG X hq lq → wG X.K Wout D lq cls dx τ G → wpAny (model X.prog X.w) X.A (handleBy (.ref a) X.env hq) (SP X pins D) X.xe { t1 with heap := hp3 } := by
      intro hq lq hk
      induction hk with
      | nil =>
        intro wsh
        refine wpAny_handleBy_nil ?_
        obtain ⟨y1, y2, y3, obj, fv, TB, oTB, tsl, gob, zob, dob, fv1, rest⟩ := id land3
        have out : wpAny (model X.prog X.w) X.A (setFlight (.ref a) X.env.frame) (fun _ t4 => wpAny (model X.prog X.w) X.A (throw (.ref a) : Sem Flow) (SP X pins D) X.xe t4) X.xe { t1 with heap := hp3 } := by
          rw [hfrm]
          refine HandSPX.setFlight_upZ land3 fun hp4 fly4 up4 => wpAny_throw (tk _ _ ?_)
          exact ⟨a, B, sI, pins, τ, G, cls, dx, rfl, I2, nb, (ups.trans up3).trans up4, .inr (.inr (by rw [hstk]; exact fly4)), na, eos, abr, wsh⟩
        unfold PySem.passOn; refine wpAny_bind (wpAny_field gob dob fv1 ?_)
        rw [if_neg (show ¬ ((Value.ref TB == Value.none) = true) by simp)]
        first
          | exact wpAny_bind (wpAny_pure (wpAny_bind out))
          | exact wpAny_bind out
      | @cons x c nm sl ts b0 bs p1 p2 hq2 lq2 hc hn hsu rr ih =>
        intro wsh
        obtain ⟨b, hm1, yes, no⟩ := wsh
        refine wpAny_handleBy_cons (codeAny_handlers_test ?_) (by intro q; cases q)
        have LT : PySem.W.Looks (model X.prog X.w) hp3 (typeOf (.ref a)) cls := fun A' Q' E' sq kp q => wpAny_typeOf_ref (kp _ _ get3) (by rw [zc3.1]; exact q)
        have LM := PySem.W.exm_one (M := model X.prog X.w) I3.kIn LT hm1
        have name : ∀ {Q' : Value → Shared → Prop} {E' : Value → Shared → Prop}, Q' c { t1 with heap := hp3 } → wpAny (model X.prog X.w) (X.A.mark (some (.ref a))) (eval (.Name x p1) X.env) Q' E' { t1 with heap := hp3 } := fun {Q' E'} q => by
          obtain ⟨hgl, hdb, hmg | ⟨hmg, hbt, hnn⟩⟩ := hc
          · exact ld_glob (X := X.suite a ((a, ob3) :: (X.pn ++ pins))) S3 hgl hmg q hdb
          · exact ld_blt (X := X.suite a ((a, ob3) :: (X.pn ++ pins))) S3 hgl hmg hbt q hnn hdb
        refine name (LM.here ?_)
        cases b with
        | false => exact ih (no rfl)
        | true =>
          have inS : ∀ {τ6 : L2.St} {G6 : Hp} {t6 : Shared} {o6 : Obj}, Inv (X.suite a ((a, o6) :: (X.pn ++ pins))) [] τ6 G6 t6 → Inv X pins τ6 G6 t6 := fun {τ6 G6 t6 o6} J => J.unsuite iok
          cases nm with
          | none =>
            cases sl with
            | some _ => exact hn.elim
            | none =>
              refine codeAny_handlers_suite ?_
              refine HandSPX.lands_againZ land3 fun hp4 land4 up4 => ?_
              have I4 : Inv X pins τ G { t1 with heap := hp4 } := I2.landed nb land4.1 ((ups.trans up3).trans up4) eos abr
              obtain ⟨ob4, fv4, get4, zc4, dat4⟩ := land4.there
              have S4 := I4.suite get4 dat4 na aL aF
              refine wpAny_mono ((hsu a ob4 (X.pn ++ pins) ⟨_, dat4⟩).run [] _ _ G _ S4 (yes rfl a ob4 na zc4.1 zc4.2 ⟨_, dat4⟩)) (fun fl t6 spq => ?_) fun _ _ z => False.elim z
              cases fl with
              | next => obtain ⟨τ6, G6, J, q⟩ := spq; exact ⟨_, _, inS J, q⟩
              | brk => obtain ⟨τ6, G6, J, q⟩ := spq; exact ⟨_, _, inS J, q⟩
              | cont => obtain ⟨τ6, G6, J, q⟩ := spq; exact ⟨_, _, inS J, q⟩
              | ret u => obtain ⟨v6, τ6, G6, J, rv, q⟩ := spq; exact ⟨_, _, _, inS J, rv, q⟩
          | some n =>
            cases sl with
            | none => exact hn.elim
            | some i =>
              obtain ⟨hi, hln⟩ := hn
              refine codeAny_handlers_suite_as ?_
              refine HandSPX.lands_againZ land3 fun hp4 land4 up4 => ?_
              have I4 : Inv X pins τ G { t1 with heap := hp4 } := I2.landed nb land4.1 ((ups.trans up3).trans up4) eos abr
              obtain ⟨ob4, fv4, get4, zc4, dat4⟩ := land4.there
              have S4 := I4.suite get4 dat4 na aL aF
              refine store_ok (X := X.suite a ((a, ob4) :: (X.pn ++ pins))) (v := .ref a) S4 hN hi (.inl hln) rfl (fun t5 S5 => ?_) (.inr hln)
              refine wpAny_mono ((hsu a ob4 (X.pn ++ pins) ⟨_, dat4⟩).run [] t5 _ G _ S5 (yes rfl a ob4 na zc4.1 zc4.2 ⟨_, dat4⟩)) (fun fl t6 spq => ?_) fun _ _ z => False.elim z
              have gone : ∀ {τ6 : L2.St} {G6 : Hp} {Q' : Shared → Prop}, Inv (X.suite a ((a, ob4) :: (X.pn ++ pins))) [] τ6 G6 t6 → (∀ t7, Inv X pins (τ6.set i none) G6 t7 → Q' t7) →
                  wpAny (model X.prog X.w) X.A (do bindName X.env n .none; unbindBehindTheSuite X.env n p2) (fun _ t7 => Q' t7) X.xe t6 := fun {τ6 G6 Q'} J hq => gone_ok (inS J) hN hi hln hq
              cases fl with
              | next => obtain ⟨τ6, G6, J, q⟩ := spq; exact gone J fun t7 J7 => ⟨_, _, J7, q⟩
              | brk => obtain ⟨τ6, G6, J, q⟩ := spq; exact gone J fun t7 J7 => ⟨_, _, J7, q⟩
              | cont => obtain ⟨τ6, G6, J, q⟩ := spq; exact gone J fun t7 J7 => ⟨_, _, J7, q⟩
              | ret u => obtain ⟨v6, τ6, G6, J, rv, q⟩ := spq; exact gone J fun t7 J7 => ⟨_, _, _, J7, rv, q⟩
    exact walk hh wish
end
end Uq

set_option maxHeartbeats 2000000
/-! Uq, part s: suites behind an except. -/
namespace Uq
open PySem PySem.Spec PyProof.Rows L2
/-- what a suite knows: the exception at a, its object oe -/
def Pg.hot (P : Pg) (a : Addr) (oe : Obj) (sl : Option Nat) : Pg := { P with xa := fun i a' c dd => sl = some i ∧ a' = a ∧ oe.cls = .ref (P.CA c) ∧ oe.dict = some dd ∧ c ∈ P.rz }
/-- isinstance(e, C) -/
def rIsD (Kf : PySem.W.Frag) (a : Addr) (oe : Obj) : List V → Hp → VK → Prop := fun xs H Q => ∃ (C dd : Addr) (c : V) (cv : Value) (fs : List (Str × V)) (b : Bool), xs = [.ref a, c] ∧ (∀ u, RelV c u → u = cv) ∧ oe.cls = .ref C ∧ oe.dict = some dd ∧ H dd = some (.xd fs) ∧ ExcC Kf C ∧ PySem.W.kitOne Kf (.ref C) cv = some b ∧ Q (.bl b) H
theorem call_isD {X : Cx} {a : Addr} {oe : Obj} {pn : List (Addr × Obj)} (hf : ∃ vs, oe.data = .fields vs) : CallR (X.suite a ((a, oe) :: pn)) (.builtin "isinstance") (rIsD X.K a oe) := by
  intro pins s σ H xs us Q I r h
  obtain ⟨C, dd, c, cv, fs, b, rfl, hcv, hcl, hdi, hdd, xc, e, q⟩ := h
  obtain ⟨u1, u2, rfl, r1, r2⟩ := vals2 r
  cases (show u1 = Value.ref a from r1)
  have ecv := hcv u2 r2
  subst ecv
  have get := (I.pin (a, oe) (List.mem_append_left _ List.mem_cons_self)).1
  obtain ⟨fv, hv⟩ := hf
  obtain ⟨mA, hns, _⟩ := (show ObjOk X.prog X.w H s.heap dd (.xd fs) from I.hok dd _ hdd)
  obtain ⟨od, ho, _⟩ := lookIn_ns hns
  have inst : PySem.W.InstAt s.heap a oe C (some od) := ⟨get, hcl, by unfold PySem.W.notCls; rw [hv] <;> rfl, by rw [hdi]; exact ho⟩
  have hclI : (PySem.W.clsIn X.K C).isSome = true := by
    obtain ⟨cd, hc, _⟩ := PySem.W.any_some xc.hd
    rw [hc]; rfl
  exact PySem.W.kia_one (PySem.W.kitx_exc hclI xc.hg xc.hk xc.hs xc.ha xc.hn xc.ht xc.hm) I.kIn inst e (fun z => nomatch z) fun tk => ⟨.bl b, H, I.tok tk, rfl, q⟩
theorem All2.app {α β : Type} {R : α → β → Prop} : ∀ {as as2 : List α} {bs bs2 : List β}, All2 R as bs → All2 R as2 bs2 → All2 R (as ++ as2) (bs ++ bs2)
  | _, _, _, _, .nil, z => z
  | _, _, _, _, .cons h t, z => .cons h (All2.app t z)
theorem All2.rev {α β : Type} {R : α → β → Prop} : ∀ {as : List α} {bs : List β}, All2 R as bs → All2 R as.reverse bs.reverse
  | _, _, .nil => .nil
  | _, _, .cons h t => by
    rw [List.reverse_cons, List.reverse_cons]
    exact (All2.rev t).app (.cons h .nil)
theorem zip_all2 {K : PySem.W.Frag} {S : Addr → Prop} {H : Hp} : ∀ (fl : List Str) {ds : List D} {vs : List V}, Rps K S H ds vs → All2 (fun (p : Str × D) (q : Str × V) => p.1 = q.1 ∧ Rp K S H p.2 q.2) (fl.zip ds) (fl.zip vs)
  | [], ds, vs, _ => .nil
  | f :: fl, [], vs, h => by simp only [Rps] at h; subst h; exact .nil
  | f :: fl, d :: ds, vs, h => by
    simp only [Rps] at h
    obtain ⟨v, r, rfl, h1, h2⟩ := h
    exact .cons ⟨rfl, h1⟩ (zip_all2 fl h2)
theorem all2_look {K : PySem.W.Frag} {S : Addr → Prop} {H : Hp} {f : Str} {d : D} : ∀ {as : List (Str × D)} {bs : List (Str × V)}, All2 (fun (p : Str × D) (q : Str × V) => p.1 = q.1 ∧ Rp K S H p.2 q.2) as bs → as.lookup f = some d → ∃ v, bs.lookup f = some v ∧ Rp K S H d v
  | _, _, .nil, h => by cases h
  | (x, d0) :: as, (y, v0) :: bs, .cons ⟨e, r⟩ t, h => by
    have e : x = y := e
    subst e
    rw [List.lookup_cons] at h ⊢
    split at h
    · cases h
      exact ⟨v0, rfl, r⟩
    · exact all2_look t h
theorem look_mem {f : Str} {d : D} : ∀ {as : List (Str × D)}, as.lookup f = some d → ∃ p ∈ as, p.1 = f
  | [], h => by cases h
  | (x, d0) :: as, h => by
    rw [List.lookup_cons] at h
    split at h
    · rename_i e
      exact ⟨_, List.mem_cons_self, (by simpa using e : f = x).symm⟩
    · obtain ⟨p, hp, e⟩ := look_mem h
      exact ⟨p, List.mem_cons_of_mem _ hp, e⟩
section
variable {cf : Cf} {P : Pg} {k : Nat} {cl : Cl} {X : Cx} {a : Addr} {oe : Obj} {pn : List (Addr × Obj)} {x : Str} {p pos : Pos} {i c : Nat} {f : Str} {sl : Option Nat}
theorem hot_slot {Kf : PySem.W.Frag} {S0 : Addr → Prop} {LL : Ow} {ρ : Env} {σ : L2.St} {H : Hp} {fs : List D} (R : Rel Kf (P.hot a oe sl) S0 LL ρ σ H) (e : ρ[i]? = some (.xc c fs)) : σ[i]? = some (some (.ref a)) ∧ oe.cls = .ref (P.CA c) ∧ c ∈ P.rz ∧
    ∃ dd vs, oe.dict = some dd ∧ H dd = some (.xd ((P.flds c).zip vs).reverse) ∧ Rps Kf (SS S0 LL) H fs vs ∧ fs.length = (P.flds c).length := by
  obtain ⟨_, a', dd, vs, ev, ⟨_, rfl, h1, h2, h3⟩, hd, r, l⟩ := R.slot i _ e
  refine ⟨?_, h1, h3, dd, vs, h2, hd, r, l⟩
  cases q : σ[i]? with
  | none => rw [q] at ev; cases ev
  | some w => rw [q] at ev; exact congrArg some ev
/-- e.f -/
theorem h_xf (G : Gd X cf P cl k) (hf : ∃ vs, oe.data = .fields vs) (hi : X.N[i]? = some x) (hv : Vis X.env.scope x) (hd : (x == ("__debug__" : Str)) = false) (hcd : (x == ("__classdict__" : Str)) = false) :
    PE (X.suite a ((a, oe) :: pn)) (.Attribute (.Name x p) f pos) (tE X.K (P.hot a oe sl) cl W0 (.xf i f)) := by
  refine ⟨fun pins s σ H Q I h => ?_⟩
  obtain ⟨S0, LL, ρ, q, e, R, hw, hq, he⟩ := h
  unfold wE at hw
  cases eo : ρ[i]? with
  | none => rw [eo] at hw; exact hw.elim
  | some sl =>
    rw [eo] at hw
    cases sl <;> first | exact hw.elim | skip
    rename_i c fs
    obtain ⟨d, hl, hqd⟩ := hw
    rw [G.fl] at hl
    obtain ⟨h1, h2, h3, dd, vs, h4, h5, r, l⟩ := hot_slot R eo
    obtain ⟨v, hlv, rv⟩ := all2_look (zip_all2 (P.flds c) r).rev hl
    obtain ⟨x1, x2, x3⟩ := G.exc c h3
    have hm : f ∈ P.flds c := by
      obtain ⟨z, hz, ez⟩ := look_mem hl
      rw [← ez]
      exact (List.of_mem_zip (List.mem_reverse.mp hz)).1
    refine (pe_xf (pn := pn) (pos := pos) x2 (x3 f hm) ⟨h2, h4⟩ hf (pe_var (X := X.suite a ((a, oe) :: pn)) (pos := p) hi hv hd hcd) rfl).run pins s σ H Q I ?_
    exact ⟨_, h1, rfl, rfl, dd, _, v, rfl, h5, hlv, hq d v H (Same.refl _) (.fls (rv.wide fun _ _ _ z => z.nm)) hqd⟩
/-- isinstance(e, C) -/
theorem h_xis {y z : Str} {p2 p3 : Pos} (G : Gd X cf P cl k) (hf : ∃ vs, oe.data = .fields vs) (hg : Gl X "isinstance") (hi : X.N[i]? = some y) (hv : Vis X.env.scope y) (hd : (y == ("__debug__" : Str)) = false) (hcd : (y == ("__classdict__" : Str)) = false)
    (hz : cf.xcI z = some c) (hgz : Gl X z) (hdz : (z == ("__debug__" : Str)) = false) : PE (X.suite a ((a, oe) :: pn)) (.Call (.Name "isinstance" p) [.Name y p2, .Name z p3] [] pos) (tE X.K (P.hot a oe sl) cl W0 (.xis i c)) := by
  refine peI (pe_callB (X := X.suite a ((a, oe) :: pn)) (call_isD hf) hg (G.b (by decide)) isi_boot (pa_cons (pe_var (X := X.suite a ((a, oe) :: pn)) hi hv hd hcd) (pa_cons (pe_glob (X := X.suite a ((a, oe) :: pn)) (v := .ref (P.CA c)) hgz (G.xc z c hz) rfl hdz) pa_nil rfl) rfl) (by decide) (by decide) rfl rfl) fun σ H Q h => ?_
  obtain ⟨S0, LL, ρ, q, e, R, hw, hq, he⟩ := h
  unfold wE at hw
  cases eo : ρ[i]? with
  | none => rw [eo] at hw; exact hw.elim
  | some sl =>
    rw [eo] at hw
    cases sl <;> first | exact hw.elim | skip
    rename_i c2 fs
    obtain ⟨h1, h2, h3, dd, vs, h4, h5, r, l⟩ := hot_slot R eo
    exact ⟨_, h1, _, dd, _, _, _, _, rfl, fun u z => z, h2, h4, h5, (G.exc c2 h3).1, (G.sub c2 h3 z c hz).2, hq _ _ H (Same.refl _) res_bl hw⟩
theorem ve_boot : bootBuiltins "ValueError" = some (.type "ValueError") := by decide +kernel
/-- isinstance(e, ValueError) -/
theorem h_xisV {y : Str} {p2 p3 : Pos} (G : Gd X cf P cl k) (hf : ∃ vs, oe.data = .fields vs) (hg : Gl X "isinstance") (hi : X.N[i]? = some y) (hv : Vis X.env.scope y) (hd : (y == ("__debug__" : Str)) = false) (hcd : (y == ("__classdict__" : Str)) = false)
    (hgz : Gl X "ValueError") : PE (X.suite a ((a, oe) :: pn)) (.Call (.Name "isinstance" p) [.Name y p2, .Name "ValueError" p3] [] pos) (tE X.K (P.hot a oe sl) cl W0 (.xis i 1000)) := by
  refine peI (pe_callB (X := X.suite a ((a, oe) :: pn)) (call_isD hf) hg (G.b (by decide)) isi_boot (pa_cons (pe_var (X := X.suite a ((a, oe) :: pn)) hi hv hd hcd) (pa_cons (pe_bltn (X := X.suite a ((a, oe) :: pn)) (v := .ty "ValueError") hgz (G.b (by decide)) ve_boot rfl (by decide) (by decide)) pa_nil rfl) rfl) (by decide) (by decide) rfl rfl) fun σ H Q h => ?_
  obtain ⟨S0, LL, ρ, q, e, R, hw, hq, he⟩ := h
  unfold wE at hw
  cases eo : ρ[i]? with
  | none => rw [eo] at hw; exact hw.elim
  | some sl =>
    rw [eo] at hw
    cases sl <;> first | exact hw.elim | skip
    rename_i c2 fs
    obtain ⟨h1, h2, h3, dd, vs, h4, h5, r, l⟩ := hot_slot R eo
    exact ⟨_, h1, _, dd, _, _, _, _, rfl, fun u z => z, h2, h4, h5, (G.exc c2 h3).1, G.subV c2 h3, hq _ _ H (Same.refl _) res_bl hw⟩
end
end Uq

set_option maxHeartbeats 2000000
/-! Uq, part t: a suite's expressions and statements. -/
namespace Uq
open PySem PySem.Spec PyProof.Rows L2
section
variable {cf : Cf} {P : Pg} {k : Nat} {cl : Cl} {X : Cx} {ea : Addr} {oe : Obj} {pn : List (Addr × Obj)} {sl : Option Nat}
mutual
theorem hC (G : Gd X cf P cl k) (hf : ∃ vs, oe.data = .fields vs) {sc : Scope} (eS : X.env.scope = sc) : ∀ (c : C) {e : Expr}, hotC c = true → chkE cf c sc e = true → Run (X.suite ea ((ea, oe) :: pn)) (P.hot ea oe sl) cl W0 c e
  | .var i, e, hh, h => by
    simp only [chkE] at h
    unfold mVar at h
    split at h
    · simp only [Bool.and_eq_true, decide_eq_true_eq, Bool.not_eq_true', decide_eq_false_iff_not] at h
      obtain ⟨⟨⟨h1, h2⟩, h3⟩, h4⟩ := h
      exact Run.of (e_var (X := X.suite ea ((ea, oe) :: pn)) (by show X.N[i]? = _; rw [G.eN]; exact h1) (vis_of (X := X) h2 eS) (bne_ h3) (bne_ h4)) (fun _ => rfl) fun op vs p q => by cases q
    · cases h
  | .non, e, hh, h => by
    simp only [chkE] at h
    unfold mNon at h
    split at h
    · exact Run.of e_non (fun _ => rfl) fun op vs p q => by cases q
    · cases h
  | .bl b, e, hh, h => by
    simp only [chkE] at h
    unfold mBl at h
    split at h
    · obtain rfl := of_decide_eq_true h
      exact Run.of e_bl (fun _ => rfl) fun op vs p q => by cases q
    · cases h
  | .int i, e, hh, h => by
    simp only [chkE] at h
    unfold mInt at h
    split at h
    · obtain rfl := of_decide_eq_true h
      exact Run.of e_int (fun _ => rfl) fun op vs p q => by cases q
    · cases h
  | .str x, e, hh, h => by
    simp only [chkE] at h
    unfold mStr at h
    split at h
    · obtain rfl := of_decide_eq_true h
      exact Run.of e_str (fun _ => rfl) fun op vs p q => by cases q
    · cases h
  | .not a, e, hh, h => by
    simp only [hotC] at hh
    simp only [chkE] at h
    unfold mNot at h
    split at h
    · have r := hC G hf eS a hh h
      exact Run.of2 (e_not r.pe) (t_not r.pt) fun op vs p q => by cases q
    · cases h
  | .neg a, e, hh, h => by
    simp only [hotC] at hh
    simp only [chkE] at h
    unfold mNeg at h
    split at h
    · exact Run.of (e_neg (hC G hf eS a hh h).pe) (fun _ => rfl) fun op vs p q => by cases q
    · cases h
  | .and a b, e, hh, h => by
    simp only [hotC, Bool.and_eq_true] at hh
    simp only [chkE] at h
    unfold mAnd at h
    split at h
    · simp only [Bool.and_eq_true] at h
      obtain ⟨h1, h2⟩ := h
      have ra := hC G hf eS a hh.1 h1
      rename_i x y r p
      have rb : PE (X.suite ea ((ea, oe) :: pn)) (.BoolOp .And (y :: r) p) (tE X.K (P.hot ea oe sl) cl W0 b) ∧ PW (X.suite ea ((ea, oe) :: pn)) (.BoolOp .And (y :: r) p) (tT X.K (P.hot ea oe sl) cl W0 b) := by
        unfold mRest at h2
        split at h2
        · have rb := hC G hf eS b hh.2 h2
          exact ⟨pe_one rb.pe, pw_and1 rb.pt⟩
        · have rb := hC G hf eS b hh.2 h2
          exact ⟨rb.pe, rb.pw _ _ _ rfl⟩
      have w := t_and ra.pt rb.2
      exact ⟨e_and ra.pe rb.1, w.pt, fun op vs p q => by cases q; exact w⟩
    · cases h
  | .or a b, e, hh, h => by
    simp only [hotC, Bool.and_eq_true] at hh
    simp only [chkE] at h
    unfold mOr at h
    split at h
    · simp only [Bool.and_eq_true] at h
      obtain ⟨h1, h2⟩ := h
      have ra := hC G hf eS a hh.1 h1
      rename_i x y r p
      have rb : PE (X.suite ea ((ea, oe) :: pn)) (.BoolOp .Or (y :: r) p) (tE X.K (P.hot ea oe sl) cl W0 b) ∧ PW (X.suite ea ((ea, oe) :: pn)) (.BoolOp .Or (y :: r) p) (tT X.K (P.hot ea oe sl) cl W0 b) := by
        unfold mRest at h2
        split at h2
        · have rb := hC G hf eS b hh.2 h2
          exact ⟨pe_one rb.pe, pw_or1 rb.pt⟩
        · have rb := hC G hf eS b hh.2 h2
          exact ⟨rb.pe, rb.pw _ _ _ rfl⟩
      have w := t_or ra.pt rb.2
      exact ⟨e_or ra.pe rb.1, w.pt, fun op vs p q => by cases q; exact w⟩
    · cases h
  | .cmp o a b, e, hh, h => by
    simp only [hotC, Bool.and_eq_true] at hh
    simp only [chkE] at h
    unfold mCmp at h
    split at h
    · simp only [Bool.and_eq_true] at h
      obtain ⟨h1, h2, h3⟩ := h
      rw [opC_to h1]
      have ra := hC G hf eS a hh.1 h2
      have rb := hC G hf eS b hh.2 h3
      have hu : X.A.units + 64 < cLine := by have := G.hu; omega
      exact Run.of2 (e_cmp hu ra.pe rb.pe) (t_cmp hu ra.pe rb.pe) fun op vs p q => by cases q
    · cases h
  | .isN n a, e, hh, h => by
    simp only [hotC] at hh
    simp only [chkE] at h
    unfold mIsN at h
    split at h
    · simp only [Bool.and_eq_true] at h
      obtain ⟨h1, h2⟩ := h
      have ra := (hC G hf eS a hh h2).pe
      rename_i o j p1 p2
      have eo : o = if n = true then .IsNot else .Is := by
        unfold isOp at h1
        split at h1 <;> first | (cases n <;> first | rfl | cases h1) | cases h1
      rw [eo]
      exact Run.of2 (e_isN ra) (t_isN ra) fun op vs p q => by cases q
    · cases h
  | .isB n b a, e, hh, h => by
    simp only [hotC] at hh
    simp only [chkE] at h
    unfold mIsB at h
    split at h
    · simp only [Bool.and_eq_true, decide_eq_true_eq] at h
      obtain ⟨rfl, h1, h2⟩ := h
      have ra := (hC G hf eS a hh h2).pe
      rename_i o j p1 p2
      have eo : o = if n = true then .IsNot else .Is := by
        unfold isOp at h1
        split at h1 <;> first | (cases n <;> first | rfl | cases h1) | cases h1
      rw [eo]
      exact Run.of2 (e_isB ra) (t_isB ra) fun op vs p q => by cases q
    · cases h
  | .tup cs, e, hh, h => by
    simp only [hotC] at hh
    simp only [chkE] at h
    unfold mTup at h
    split at h
    · simp only [Bool.and_eq_true, decide_eq_true_eq] at h
      exact Run.of (e_tup h.2 (args_pa (hCs G hf eS cs hh h.1))) (fun _ => rfl) fun op vs p q => by cases q
    · cases h
  | .xf i f, e, hh, h => by
    simp only [chkE] at h
    unfold mXf at h
    split at h
    · simp only [Bool.and_eq_true, decide_eq_true_eq, Bool.not_eq_true', decide_eq_false_iff_not] at h
      obtain ⟨h1, h2, rfl, h3, h4⟩ := h
      exact Run.of (h_xf G hf (by rw [G.eN]; exact h1) (vis_of h2 eS) (bne_ h3) (bne_ h4)) (fun _ => rfl) fun op vs p q => by cases q
    · cases h
  | .xis i c, e, hh, h => by
    simp only [chkE] at h
    unfold mXis at h
    split at h
    · simp only [Bool.and_eq_true, Bool.or_eq_true, decide_eq_true_eq, Bool.not_eq_true', decide_eq_false_iff_not] at h
      obtain ⟨rfl, h2, h3, h4, h5, h6, h7, h8, h9⟩ := h
      rcases h5 with h5 | ⟨rfl, rfl⟩
      · exact Run.of (h_xis G hf (gl_of h2 eS) (by rw [G.eN]; exact h3) (vis_of h4 eS) (bne_ h8) (bne_ h9) h5 (gl_of h6 eS) (bne_ h7)) (fun _ => rfl) fun op vs p q => by cases q
      · exact Run.of (h_xisV G hf (gl_of h2 eS) (by rw [G.eN]; exact h3) (vis_of h4 eS) (bne_ h8) (bne_ h9) (gl_of h6 eS)) (fun _ => rfl) fun op vs p q => by cases q
    · cases h
  | .bin _ _ _, e, hh, h => by simp only [hotC, Bool.false_eq_true] at hh
  | .chn _ _ _ _ _, e, hh, h => by simp only [hotC, Bool.false_eq_true] at hh
  | .mem _ _ _, e, hh, h => by simp only [hotC, Bool.false_eq_true] at hh
  | .ite _ _ _, e, hh, h => by simp only [hotC, Bool.false_eq_true] at hh
  | .lst _, e, hh, h => by simp only [hotC, Bool.false_eq_true] at hh
  | .ix _ _, e, hh, h => by simp only [hotC, Bool.false_eq_true] at hh
  | .sl _ _ _, e, hh, h => by simp only [hotC, Bool.false_eq_true] at hh
  | .rev _, e, hh, h => by simp only [hotC, Bool.false_eq_true] at hh
  | .call _ _ _, e, hh, h => by simp only [hotC, Bool.false_eq_true] at hh
  | .callv _ _, e, hh, h => by simp only [hotC, Bool.false_eq_true] at hh
  | .bi _ _, e, hh, h => by simp only [hotC, Bool.false_eq_true] at hh
  | .isi _ _, e, hh, h => by simp only [hotC, Bool.false_eq_true] at hh
  | .lc _ _ _ _ _, e, hh, h => by simp only [hotC, Bool.false_eq_true] at hh
  | .chn3 _ _ _ _ _ _ _, e, hh, h => by simp only [hotC, Bool.false_eq_true] at hh
  | .ixo _ _, e, hh, h => by simp only [hotC, Bool.false_eq_true] at hh
  | .ssc _ _ _ _, e, hh, h => by simp only [hotC, Bool.false_eq_true] at hh
  | .dq _ _ _ _ _, e, hh, h => by simp only [hotC, Bool.false_eq_true] at hh
theorem hCs (G : Gd X cf P cl k) (hf : ∃ vs, oe.data = .fields vs) {sc : Scope} (eS : X.env.scope = sc) : ∀ (cs : List C) {es : List Expr}, hotC.hotCs cs = true → chkEs cf cs sc es = true → All2 (AEx (X.suite ea ((ea, oe) :: pn)) (P.hot ea oe sl) cl W0) cs es
  | [], es, hh, h => by
    simp only [chkEs] at h
    cases es with
    | nil => exact .nil
    | cons _ _ => cases h
  | c :: cs, es, hh, h => by
    simp only [hotC.hotCs, Bool.and_eq_true] at hh
    simp only [chkEs] at h
    unfold mCons at h
    split at h
    · simp only [Bool.and_eq_true] at h
      have r := hC G hf eS c hh.1 h.1
      exact .cons ⟨h.2.1, r.pe, r.pt⟩ (hCs G hf eS cs hh.2 h.2.2)
    · cases h
end
mutual
theorem hS (G : Gd X cf P cl k) (At0 : At X X.env.scope) (hf : ∃ vs, oe.data = .fields vs) {sc : Scope} (eS : X.env.scope = sc) : ∀ (s : S) {st : Stmt}, hotS s = true → chkS cf sc s st = true → PS (X.suite ea ((ea, oe) :: pn)) st (tS X.K (P.hot ea oe sl) cl W0 s)
  | .asg i e, st, hh, h => by
    simp only [hotS] at hh
    simp only [chkS] at h
    unfold nAsg at h
    split at h
    · simp only [Bool.and_eq_true] at h
      obtain ⟨h1, h2, h3⟩ := h
      unfold chkNm at h1
      simp only [Bool.and_eq_true, decide_eq_true_eq] at h1
      obtain ⟨l, f⟩ := At0.st _ (by rw [eS]; exact h1.2)
      refine s_asg (X := X.suite ea ((ea, oe) :: pn)) G.nd (by show X.N[i]? = _; rw [G.eN]; exact h1.1) l f (hC G hf eS e hh h3).pe ?_
      rcases Bool.or_eq_true_iff.mp h2 with z | z
      · exact sw_plain z
      · rename_i e' _
        unfold isLC at z
        split at z
        · cases e <;> first | (exfalso; simp [hotC] at hh; done) | (exfalso; simp [chkE, mVar, mNon, mBl, mInt, mStr, mNot, mNeg, mAnd, mOr, mCmp, mIsN, mIsB, mTup, mXf, mXis] at h3; done)
        · cases z
    · cases h
  | .ret e, st, hh, h => by
    simp only [hotS] at hh
    simp only [chkS] at h
    unfold nRet at h
    split at h
    · exact s_ret (hC G hf eS e hh h).pe
    · cases h
  | .ite c a b, st, hh, h => by
    simp only [hotS, Bool.and_eq_true] at hh
    simp only [chkS] at h
    unfold nIte at h
    split at h
    · simp only [Bool.and_eq_true] at h
      obtain ⟨h1, h2, h3⟩ := h
      exact s_ite (hC G hf eS c hh.1 h1).pt (hSs G At0 hf eS a hh.2.1 h2) (hSs G At0 hf eS b hh.2.2 h3)
    · cases h
  | .pas, st, hh, h => by
    simp only [chkS] at h
    unfold nPas at h
    split at h
    · exact s_pas
    · cases h
  | .brk, st, hh, h => by
    simp only [chkS] at h
    unfold nBrk at h
    split at h
    · exact s_brk
    · cases h
  | .cnt, st, hh, h => by
    simp only [chkS] at h
    unfold nCnt at h
    split at h
    · exact s_cnt
    · cases h
  | .kil _, st, hh, h => by simp only [chkS, Bool.false_eq_true] at h
  | .unp _ _, st, hh, h => by simp only [hotS, Bool.false_eq_true] at hh
  | .par _ _ _ _, st, hh, h => by simp only [hotS, Bool.false_eq_true] at hh
  | .put _ _ _, st, hh, h => by simp only [hotS, Bool.false_eq_true] at hh
  | .app _ _, st, hh, h => by simp only [hotS, Bool.false_eq_true] at hh
  | .ext _ _, st, hh, h => by simp only [hotS, Bool.false_eq_true] at hh
  | .pop _, st, hh, h => by simp only [hotS, Bool.false_eq_true] at hh
  | .popA _ _, st, hh, h => by simp only [hotS, Bool.false_eq_true] at hh
  | .popTo _ _, st, hh, h => by simp only [hotS, Bool.false_eq_true] at hh
  | .aug _ _ _, st, hh, h => by simp only [hotS, Bool.false_eq_true] at hh
  | .exp _, st, hh, h => by simp only [hotS, Bool.false_eq_true] at hh
  | .retN, st, hh, h => by simp only [hotS, Bool.false_eq_true] at hh
  | .fr _ _ _ _, st, hh, h => by simp only [hotS, Bool.false_eq_true] at hh
  | .wh _ _, st, hh, h => by simp only [hotS, Bool.false_eq_true] at hh
  | .rai _ _, st, hh, h => by simp only [hotS, Bool.false_eq_true] at hh
  | .tri _ _ _ _, st, hh, h => by simp only [hotS, Bool.false_eq_true] at hh
theorem hSs (G : Gd X cf P cl k) (At0 : At X X.env.scope) (hf : ∃ vs, oe.data = .fields vs) {sc : Scope} (eS : X.env.scope = sc) : ∀ (ss : List S) {sts : List Stmt}, hotSs ss = true → chkSs cf sc ss sts = true → PSs (X.suite ea ((ea, oe) :: pn)) sts (tSs X.K (P.hot ea oe sl) cl W0 ss)
  | [], sts, hh, h => by
    simp only [chkSs] at h
    cases sts with
    | nil => exact ss_nil
    | cons _ _ => cases h
  | s :: ss, sts, hh, h => by
    simp only [hotSs, hotS.hotSs, Bool.and_eq_true] at hh
    simp only [chkSs] at h
    split at h
    · rename_i ek
      cases s <;> simp only [isKil, Bool.false_eq_true] at ek
      exact ss_kil (hSs G At0 hf eS ss hh.2 h)
    · unfold nCons at h
      split at h
      · simp only [Bool.and_eq_true] at h
        exact ss_cons (hS G At0 hf eS s hh.1 h.1) (hSs G At0 hf eS ss hh.2 h.2)
      · cases h
end
end
end Uq

set_option maxHeartbeats 2000000
/-! Uq, part u: every checked statement runs as its core term says. -/
namespace Uq
open PySem PySem.Spec PyProof.Rows L2
section
variable {K : PySem.W.Frag} {P : Pg} {a : Addr} {oe : Obj} {sl : Option Nat} {S0 : Addr → Prop} {LL : Ow} {ρ : Env} {σ : L2.St} {H : Hp}
theorem RSl.swap {P1 P2 : Pg} {i : Nat} {S : Addr → Prop} {L : List Addr} {s : Sl} {v : Option V} (hx : ∀ c fs, s ≠ .xc c fs) (h : RSl K P1 i S H L s v) : RSl K P2 i S H L s v := by
  cases s with
  | no => exact h
  | va d => exact h
  | ol ds => exact h
  | nl dss => exact h
  | dc t kvs => exact h
  | xc c fs => exact absurd rfl (hx c fs)
theorem Rel.swap {P1 P2 : Pg} (hx : ∀ (i c : Nat) (fs : List Uq.D), ρ[i]? ≠ some (Sl.xc c fs)) (R : Rel K P1 S0 LL ρ σ H) : Rel K P2 S0 LL ρ σ H :=
  ⟨R.ln, fun i s e => (R.slot i s e).swap fun c fs z => hx i c fs (by rw [e, z]), R.dj, R.own, R.fr⟩
theorem Rel.cold (h0 : P.xa = xa0) (R : Rel K P S0 LL ρ σ H) : ∀ (i c : Nat) (fs : List Uq.D), ρ[i]? ≠ some (Sl.xc c fs) := fun i c fs => no_xc h0 R
theorem Rel.hotS (R : Rel K (P.hot a oe sl) S0 LL ρ σ H) {i c : Nat} {fs : List D} (e : ρ[i]? = some (.xc c fs)) : sl = some i := by
  obtain ⟨_, a', dd, vs, _, ⟨h, _⟩, _⟩ := R.slot i _ e
  exact h
/-- the suite's end: the name is gone -/
theorem Rel.cool (R : Rel K (P.hot a oe sl) S0 LL ρ σ H) : match sl with
    | none => Rel K P S0 LL ρ σ H
    | some i => ∃ LL', Rel K P S0 LL' (ρ.set i .no) (σ.set i none) H ∧ Fm LL H LL' H := by
  cases sl with
  | none => exact R.swap fun i c fs e => nomatch R.hotS e
  | some i =>
    have R2 := R.setNo i none
    refine ⟨_, R2.swap fun j c fs e => ?_, Fm.less⟩
    have ej := R2.hotS e
    have ej : i = j := Option.some.inj ej
    subst ej
    by_cases h : i < ρ.length
    · rw [List.getElem?_set_self h] at e
      cases e
    · rw [List.getElem?_eq_none (by rw [List.length_set]; omega)] at e
      cases e
end
section
variable {cf : Cf} {P : Pg} {k : Nat} {cl : Cl}
/-- what stands of a def's frame -/
structure Gs (X : Cx) (cf : Cf) (P : Pg) (cl : Cl) (k : Nat) (sc : Scope) : Prop where
  g : Gd X cf P cl k
  eq : X.env.scope = sc
  at_ : At X sc
  po : PassesOwn (model X.prog X.w) X.A X.env X.xe
  kd : X.env.scope.kind = .function
  hs : X.stack = X.env :: X.outer
  hf : X.env.frame = some X.env.locals
theorem Gd.tr {X : Cx} (G : Gd X cf P cl k) (qn : List (Addr × Obj)) (ee : Value → Shared → Prop) : Gd (X.tr qn ee) cf P cl k := ⟨G.eN, G.nd, G.calm, G.rm, G.xa, G.bi, G.k2, G.xc, G.rzE, G.made, G.fl, G.sub, G.subV, G.exc, G.fn, G.fv⟩
theorem Gs.tr {X : Cx} {sc : Scope} (G : Gs X cf P cl k sc) (qn : List (Addr × Obj)) (ee : Value → Shared → Prop) (po : PassesOwn (model X.prog X.w) X.A X.env ee) : Gs (X.tr qn ee) cf P cl k sc := ⟨G.g.tr qn ee, G.eq, ⟨G.at_.st⟩, po, G.kd, G.hs, G.hf⟩
/-- the clauses -/
def hsl (Kf : PySem.W.Frag) (P : Pg) (cl : Cl) : List (List S) → List Nat → List (Option Nat) → List (Value × Option Nat × HTs)
  | b :: bs, c :: cs, v :: vs => (.ref (P.CA c), v, fun a oe => tSs Kf (P.hot a oe v) cl W0 b) :: hsl Kf P cl bs cs vs
  | _, _, _ => []
theorem hsl_nil {Kf : PySem.W.Frag} {hc : List Nat} {hv : List (Option Nat)} : hsl Kf P cl [] hc hv = [] := by cases hc <;> rfl
theorem hd_read {X : Cx} {W : WX} {D : Ends} (G : Gd X cf P cl k) {S0 : Addr → Prop} {LL : Ow} {ρ : Env} {σ : L2.St} {H : Hp} {kk : Uq.K} {c : Nat} {fs : List Uq.D} {cv : Value} {dx : Option Addr} (R : Rel X.K P S0 LL ρ σ H) (hk : EdOk X.K P W S0 LL H kk D) (x : XRp X.K P H c fs cv dx) :
    ∀ (hb : List (List S)) (hc : List Nat) (hv : List (Option Nat)), (∀ h ∈ hc, ∃ z, cf.xcI z = some h) → hb.length = hc.length → hb.length = hv.length → wHs cl hc hv hb c fs ρ kk → wG X.K W D (hsl X.K P cl hb hc hv) cv dx σ H
  | [], hc, hv, _, _, _, h => by
    simp only [wHs] at h
    have e : hsl X.K P cl [] hc hv = [] := by cases hc <;> rfl
    rw [e]
    exact hk.ex c fs cv dx LL ρ σ H R Fm.refl x h
  | b :: bs, [], hv, _, hl, _, h => by simp at hl
  | b :: bs, c0 :: hc, [], _, _, hl, h => by simp at hl
  | b :: bs, c0 :: hc, v :: hv, hz, hl, hl2, h => by
    simp only [wHs] at h
    obtain ⟨hr, dd, vs, rfl, rfl, hd, hno, hrs, hln⟩ := id x
    obtain ⟨z, ez⟩ := hz c0 List.mem_cons_self
    refine ⟨cl.sub c c0, (G.sub c hr z c0 ez).1, fun eb a oe ha h1 h2 hf => ?_, fun eb => ?_⟩
    · rw [if_pos eb] at h
      have cold := R.cold G.xa
      cases v with
      | none =>
        refine ⟨S0, LL, ρ, _, R.swap cold, h, ⟨fun _ _ _ _ R' f q => ?_, hk.rt, fun _ _ _ _ R' f q => ?_, fun _ _ _ _ R' f q => ?_, fun _ _ _ _ _ _ _ _ _ _ _ q => q.elim⟩⟩
        · exact hk.nx _ _ _ _ R'.cool f q
        · exact hk.bk _ _ _ _ R'.cool f q
        · exact hk.ct _ _ _ _ R'.cool f q
      | some i =>
        have R1 : Rel X.K (P.hot a oe (some i)) S0 LL ρ σ H := R.swap cold
        have R2 : Rel X.K (P.hot a oe (some i)) S0 (Lset LL i []) (ρ.set i (.xc c fs)) (σ.set i (some (.ref a))) H :=
          R1.put i _ _ [] (fun _ _ _ h => h.less) (.of_same (Same.refl H)) (fun _ _ _ _ => rfl) ⟨rfl, a, dd, vs, rfl, ⟨rfl, rfl, h1, h2, hr⟩, hd, Rps.noL _ _ hno hrs, hln⟩ (fun _ h => nomatch h) fun _ h => h
        have back : ∀ {Q : L2.St → Hp → Prop} {q : Env → Prop}, (∀ LL' ρ' σ' H', Rel X.K P S0 LL' ρ' σ' H' → Fm LL H LL' H' → q ρ' → Q σ' H') → ∀ LL' ρ' σ' H', Rel X.K (P.hot a oe (some i)) S0 LL' ρ' σ' H' → Fm (Lset LL i []) H LL' H' → q (ρ'.set i .no) → Q (σ'.set i none) H' :=
          fun {Q q} hq LL' ρ' σ' H' R' f hh => let ⟨LL2, R3, f3⟩ := R'.cool; hq LL2 _ _ _ R3 ((Fm.less.trans f).trans f3) hh
        refine ⟨S0, _, _, _, R2, h, ⟨back hk.nx, fun d v LL' H' r f q => hk.rt d v LL' H' r (Fm.less.trans f) q, back hk.bk, back hk.ct, fun _ _ _ _ _ _ _ _ _ _ _ q => q.elim⟩⟩
    · rw [if_neg (by rw [eb]; exact Bool.false_ne_true)] at h
      exact hd_read G R hk x bs hc hv (fun q hq => hz q (List.mem_cons_of_mem _ hq)) (by simpa using hl) (by simpa using hl2) h
theorem chk_hs {X : Cx} {sc : Scope} (G : Gs X cf P cl k sc) : ∀ (hb : List (List S)) (hc : List Nat) (hv : List (Option Nat)) {hds : List ExceptHandler}, chkHs cf sc hb hc hv hds = true →
    HdG X hds (hsl X.K P cl hb hc hv) ∧ (∀ h ∈ hc, ∃ z, cf.xcI z = some h) ∧ hb.length = hc.length ∧ hb.length = hv.length
  | [], hc, hv, hds, h => by
    simp only [chkHs, Bool.and_eq_true, List.isEmpty_iff] at h
    obtain ⟨rfl, rfl, rfl⟩ := h
    exact ⟨.nil, fun _ h => (List.not_mem_nil h).elim, rfl, rfl⟩
  | b :: bs, hc, hv, hds, h => by
    simp only [chkHs] at h
    unfold nHd at h
    split at h
    · rename_i c hc' hv' x p1 st p2 hs'
      simp only [Bool.and_eq_true, decide_eq_true_eq, Bool.not_eq_true', decide_eq_false_iff_not] at h
      obtain ⟨h1, h2, h3, ⟨h4, h5⟩, h6, h7⟩ := h
      obtain ⟨i1, i2, i3, i4⟩ := chk_hs G bs hc' hv' h6
      cases st with
      | nil => cases h7
      | cons b0 st =>
        refine ⟨.cons ⟨gl_of h2 G.eq, bne_ h3, .inl (G.g.xc x c h1)⟩ trivial (fun a oe pn hf => hSs G.g (by rw [G.eq]; exact G.at_) hf G.eq b h4 h5) i1, fun q hq => ?_, by simp [i3], by simp [i4]⟩
        rcases List.mem_cons.mp hq with rfl | hq
        · exact ⟨x, h1⟩
        · exact i2 q hq
    · rename_i c hc' v hv' x p1 n st p2 hs'
      simp only [Bool.and_eq_true, decide_eq_true_eq, Bool.not_eq_true', decide_eq_false_iff_not] at h
      obtain ⟨h1, h2, h8, h9, h3, ⟨h4, h5⟩, h6, h7⟩ := h
      obtain ⟨i1, i2, i3, i4⟩ := chk_hs G bs hc' hv' h6
      cases st with
      | nil => cases h7
      | cons b0 st =>
        refine ⟨.cons ⟨gl_of h2 G.eq, bne_ h3, .inl (G.g.xc x c h1)⟩ ⟨by rw [G.g.eN]; exact h8, by unfold Env.kindOf; rw [G.eq]; exact h9⟩ (fun a oe pn hf => hSs G.g (by rw [G.eq]; exact G.at_) hf G.eq b h4 h5) i1, fun q hq => ?_, by simp [i3], by simp [i4]⟩
        rcases List.mem_cons.mp hq with rfl | hq
        · exact ⟨x, h1⟩
        · exact i2 q hq
    · cases h
end
end Uq

set_option maxHeartbeats 2000000
/-! Uq, part v: every checked statement runs as its core term says. -/
namespace Uq
open PySem PySem.Spec PyProof.Rows L2
section
variable {cf : Cf} {P : Pg} {k : Nat} {cl : Cl}
theorem nm_get {X : Cx} {sc : Scope} (G : Gs X cf P cl k sc) {i : Nat} {x : Str} {p : Pos} (h : chkNm cf sc i (.Name x p) = true) : X.N[i]? = some x ∧ Loc X.env.scope x ∧ (X.fn x = true ∨ X.env.scope.names.lookup x = some .local) := by
  unfold chkNm at h
  simp only [Bool.and_eq_true, decide_eq_true_eq] at h
  obtain ⟨l, f⟩ := G.at_.st _ h.2
  exact ⟨by rw [G.g.eN]; exact h.1, l, f⟩
theorem nm_var {X : Cx} {sc : Scope} (G : Gs X cf P cl k sc) {i : Nat} {x : Str} (h : nmV cf sc i x = true) : X.N[i]? = some x ∧ Vis X.env.scope x ∧ (x == ("__debug__" : Str)) = false ∧ (x == ("__classdict__" : Str)) = false := by
  unfold nmV at h
  simp only [Bool.and_eq_true, decide_eq_true_eq, Bool.not_eq_true', decide_eq_false_iff_not] at h
  obtain ⟨h1, h2, h3, h4⟩ := h
  exact ⟨by rw [G.g.eN]; exact h1, vis_of h2 G.eq, bne_ h3, bne_ h4⟩
theorem ip_all {X : Cx} {o : Bo} (h : o = .add ∨ o = .sub) : PIp X (toOp o) (ipD o) := by
  rcases h with rfl | rfl
  · intro pins s σ H x y v u Q I r1 r2 ⟨a, b, e1, e2, q⟩
    have q : ∃ c : Int, PyData.int (a + b) = .int c ∧ Q (.int c) H := q
    obtain ⟨c, ec, q⟩ := q
    cases ec
    exact ip_add pins s σ H x y v u Q I r1 r2 ⟨a, b, e1, e2, q⟩
  · intro pins s σ H x y v u Q I r1 r2 ⟨a, b, e1, e2, q⟩
    have q : ∃ c : Int, PyData.int (a - b) = .int c ∧ Q (.int c) H := q
    obtain ⟨c, ec, q⟩ := q
    cases ec
    exact ip_sub pins s σ H x y v u Q I r1 r2 ⟨a, b, e1, e2, q⟩
mutual
theorem sS : ∀ (s : S) {X : Cx} {W : WX} {sc : Scope} {st : Stmt}, Gs X cf P cl k sc → Takes X W → chkS cf sc s st = true → PS X st (tS X.K P cl W s)
  | .asg i e, X, W, sc, st, G, tk, h => by
    simp only [chkS] at h
    unfold nAsg at h
    split at h
    · simp only [Bool.and_eq_true] at h
      obtain ⟨h1, h2, h3⟩ := h
      obtain ⟨n1, n2, n3⟩ := nm_get G h1
      have he := (sC e G.g tk G.eq h3).pe
      rename_i x p e' pos
      rcases Bool.or_eq_true_iff.mp h2 with z | z
      · exact s_asg G.g.nd n1 n2 n3 he (sw_plain z)
      · unfold isLC at z
        split at z
        · rename_i elt gs osc ep
          by_cases hb : (X.env.blockKind == .function && X.env.kindOf x == some .local && p.line == ep.line && !(osc.names.any fun (n, k) => n == x && (k == .local || k == .cell))) = true
          · cases e with
            | lc e0 t kd cs cd =>
              have h3' := h3
              simp only [chkE] at h3'
              unfold mLc at h3'
              split at h3'
              · rename_i e2 tg it ifs ia osc2 pos2 heq
                injection heq with q1 q2 q3 q4
                subst q1 q2 q3 q4
                simp only [Bool.and_eq_true, decide_eq_true_eq] at h3'
                obtain ⟨h0, c1, c2, c3, c4, c5, c6, c7, c8⟩ := h3'
                subst h0
                have em := tgNames_map c3
                simp only [Bool.and_eq_true, beq_iff_eq] at hb
                have hl : X.env.scope.names.lookup x = some .local := hb.1.1.2
                have sw : swapsWith (.ListComp elt [⟨tg, it, ifs, 0⟩] osc ep) (some (.Name x p)) pos.line X.env = pure true := by
                  refine sw_true G.kd hl (by simpa using hb.1.2) ?_
                  simpa using hb.2
                have big := ps_setLc (y := x) (py := p) (spos := pos) (te := tE X.K P cl W0 e0) (tt := tTs X.K P cl cd) (g := gTg X.K t) (own := tgNames t tg) G.g.calm G.g.nd n1 hl sw (s_it (t := t) (osc := osc) G.g G.eq c3 c1 (fun es h => sCs cs G.g tk G.eq h) c7) (blkOk_by (by rw [G.g.eN, G.eq]; exact c4)) (fun s H C cl' fp => pg_tg (cf := cf) G.g.calm G.g.nd G.g.eN at_blk c3) (fun s H C cl' fp => by
                  have z := sCs cd (G.g.blk s H osc (compEnvC osc cl' C X.env) fp) takes0 (show _ = relS osc sc by rw [← G.eq]; rfl) c5
                  cases z with
                  | nil => exact ts_nil
                  | cons z zz =>
                    cases zz with
                    | cons _ _ => simp at c6
                    | nil => exact ts_one z.2.2) (fun s H C cl' fp => (sC e0 (G.g.blk s H osc (compEnvC osc cl' C X.env) fp) takes0 (show _ = relS osc sc by rw [← G.eq]; rfl) c2).pe) (okE_fold c8)
                rw [em] at big
                refine psI big fun D σ H ⟨S0, LL, ρ, kk, R, hw, hk⟩ => lc_read ⟨S0, LL, ρ, _, _, R, hw, fun d v H' s r q => ?_, exE R hk⟩
                obtain ⟨LL', R', f⟩ := asg_read (i := i) R s r
                exact hk.nx _ _ _ _ R' f q
              · cases h3'
            | _ => exfalso; simp [chkE, mVar, mNon, mBl, mInt, mStr, mBin, mNeg, mNot, mAnd, mOr, mCmp, mChn, mIsN, mIsB, mMem, mIte, mTup, mLst, mIx, mSl, mRev, mCall, mCallV, mIsi, mXf, mXis, mIxo, mChn3, mSsc, mDq, mKey] at h3 <;> first | done | (rename_i f0 _; cases f0 <;> simp [mBi, mBi0, mBits, mIn, mDef] at h3) | (rename_i f0 t0 _ _ _; cases f0 <;> simp [mDq] at h3)
          · refine s_asg G.g.nd n1 n2 n3 he ?_
            have hb' : (X.env.blockKind == .function && X.env.kindOf x == some .local && p.line == ep.line && !(osc.names.any fun (n, k) => n == x && (k == .local || k == .cell))) = false := Bool.eq_false_iff.mpr hb
            show (pure (X.env.blockKind == .function && X.env.kindOf x == some .local && p.line == ep.line && !(osc.names.any fun (n, k) => n == x && (k == .local || k == .cell))) : Sem Bool) = pure false
            rw [hb']
        · cases z
    · cases h
  | .unp is e, X, W, sc, st, G, tk, h => by
    simp only [chkS] at h
    unfold nUnp at h
    split at h
    · rename_i es kt pt e' pos
      simp only [Bool.and_eq_true] at h
      obtain ⟨h1, h2, h3, h4, h5⟩ := h
      have hp := not_tup h5
      refine s_unp (sC e G.g tk G.eq h4).pe (pg_tg (cf := cf) (t := .tp is) G.g.calm G.g.nd G.g.eN G.at_ ?_) (by show swapsWith e' (some (.Tuple es kt pt)) pos.line X.env = pure false; exact sw_plain hp) (ss_none h5) rfl
      show chkTg cf sc (.tp is) (.Tuple es kt pt) = true
      simp only [chkTg, h1, h2, h3, Bool.and_self]
    · cases h
  | .par i j a b, X, W, sc, st, G, tk, h => by
    simp only [chkS] at h
    unfold nPar at h
    split at h
    · rename_i x px y py kt pt a' b' k2 pt2 pos
      simp only [Bool.and_eq_true, decide_eq_true_eq, Bool.not_eq_true', decide_eq_false_iff_not] at h
      obtain ⟨h1, h2, h3, h4, h5, h6, h7, h8, h9, h10, h11⟩ := h
      have ra := sC a G.g tk G.eq h6
      have rb := sC b G.g tk G.eq h8
      have hx : X.env.scope.names.lookup x = some .local := by rw [G.eq]; exact h4
      have hy : X.env.scope.names.lookup y = some .local := by rw [G.eq]; exact h5
      exact s_par G.g.calm G.g.nd (by rw [G.g.eN]; exact h1) (by rw [G.g.eN]; exact h2) h3 hx hy (args_pa (.cons ⟨h7, ra.pe, ra.pt⟩ (.cons ⟨h9, rb.pe, rb.pt⟩ .nil))) (par_sw G.kd hx hy h11 h7 h9 h10)
    · cases h
  | .nlc i e0 t kd cs, X, W, sc, st, G, tk, h => by
    simp only [chkS] at h
    unfold nNlc at h
    split at h
    · rename_i x p elt tg it ia osc ep pos
      simp only [Bool.and_eq_true, decide_eq_true_eq, beq_iff_eq] at h
      obtain ⟨h1, h2, h3, h4, rfl, c1, c2, c3, c4, c7, c8⟩ := h
      obtain ⟨n1, n2, n3⟩ := nm_get G h1
      have hl : X.env.scope.names.lookup x = some .local := by rw [G.eq]; exact h2
      have sw : swapsWith (.ListComp elt [⟨tg, it, [], 0⟩] osc ep) (some (.Name x p)) pos.line X.env = pure true := by
        refine sw_true G.kd hl (by simpa using h3) ?_
        simpa using h4
      have em := tgNames_map c3
      have big := ps_setLc (y := x) (py := p) (spos := pos) (te := tE X.K P cl W0 e0) (tt := tTs X.K P cl []) (g := gTg X.K t) (own := tgNames t tg) G.g.calm G.g.nd n1 hl sw (s_it (t := t) (osc := osc) G.g G.eq c3 c1 (fun es h => sCs cs G.g tk G.eq h) c7) (blkOk_by (by rw [G.g.eN, G.eq]; exact c4)) (fun s H C cl' fp => pg_tg (cf := cf) G.g.calm G.g.nd G.g.eN at_blk c3) (fun s H C cl' fp => ts_nil)
        (fun s H C cl' fp => (sC e0 (G.g.blk s H osc (compEnvC osc cl' C X.env) fp) takes0 (show _ = relS osc sc by rw [← G.eq]; rfl) c2).pe) (okE_fold c8)
      rw [em] at big
      exact psI big fun D σ H h => nl_read h
    · cases h
  | .nappE i e, X, W, sc, st, G, tk, h => by
    simp only [chkS] at h
    unfold nMeth at h
    split at h
    · simp only [Bool.and_eq_true, decide_eq_true_eq] at h
      obtain ⟨h1, rfl, h3, h4⟩ := h
      obtain ⟨n1, n2, n3, n4⟩ := nm_var G h1
      simp only [chkEs] at h3
      unfold mCons at h3
      split at h3
      · simp only [Bool.and_eq_true, List.isEmpty_iff] at h3
        obtain ⟨g1, g2, rfl⟩ := h3
        exact s_nappE n1 n2 n3 n4 (sC e G.g tk G.eq g1).pe g2 h4
      · cases h3
    · cases h
  | .dnew i t, X, W, sc, st, G, tk, h => by
    simp only [chkS] at h
    unfold nDnew at h
    split at h
    · obtain ⟨n1, n2, n3⟩ := nm_get G h
      exact s_dnew G.g.nd n1 n2 n3
    · cases h
  | .dput i t cs e, X, W, sc, st, G, tk, h => by
    simp only [chkS] at h
    unfold nDput at h
    split at h
    · simp only [Bool.and_eq_true] at h
      obtain ⟨h1, h2, h3, h4, h5⟩ := h
      obtain ⟨n1, n2, n3, n4⟩ := nm_var G h1
      exact s_dput (by have := G.g.hu; omega) n1 n2 n3 n4 (s_key (fun es h => sCs cs G.g tk G.eq h) h2) (sC e G.g tk G.eq h4).pe (not_tup h5)
    · cases h
  | .popU is i, X, W, sc, st, G, tk, h => by
    simp only [chkS] at h
    unfold nPopU at h
    split at h
    · rename_i es kt pt x xp m ap cp pos
      simp only [Bool.and_eq_true, decide_eq_true_eq] at h
      obtain ⟨h1, rfl, h3, h4, h5, h6⟩ := h
      obtain ⟨n1, n2, n3, n4⟩ := nm_var G h1
      refine s_popU n1 n2 n3 n4 h6 (pg_tg (cf := cf) (t := .tp is) G.g.calm G.g.nd G.g.eN G.at_ ?_) rfl rfl rfl
      show chkTg cf sc (.tp is) (.Tuple es kt pt) = true
      simp only [chkTg, h3, h4, h5, decide_true, Bool.and_self]
    · cases h
  | .nnew i, X, W, sc, st, G, tk, h => by
    simp only [chkS] at h
    unfold nNnew at h
    split at h
    · simp only [Bool.and_eq_true] at h
      obtain ⟨h1, h2, h3⟩ := h
      obtain ⟨n1, n2, n3⟩ := nm_get G h1
      exact s_nnew G.g.nd n1 n2 n3 (sC (.lst []) G.g tk G.eq h3).pe (sw_plain h2)
    · cases h
  | .napp i, X, W, sc, st, G, tk, h => by
    simp only [chkS] at h
    unfold nMeth at h
    split at h
    · simp only [Bool.and_eq_true, decide_eq_true_eq] at h
      obtain ⟨h1, rfl, h3, h4⟩ := h
      obtain ⟨n1, n2, n3, n4⟩ := nm_var G h1
      simp only [chkEs] at h3
      unfold mCons at h3
      split at h3
      · simp only [Bool.and_eq_true, List.isEmpty_iff] at h3
        obtain ⟨g1, g2, rfl⟩ := h3
        exact s_napp n1 n2 n3 n4 (sC (.lst []) G.g tk G.eq g1).pe g2 h4
      · cases h3
    · cases h
  | .nadd i a e, X, W, sc, st, G, tk, h => by
    simp only [chkS] at h
    unfold nNadd at h
    split at h
    · simp only [Bool.and_eq_true, decide_eq_true_eq] at h
      obtain ⟨h1, rfl, h2, h3, h4, h5⟩ := h
      obtain ⟨n1, n2, n3, n4⟩ := nm_var G h1
      simp only [chkEs] at h4
      unfold mCons at h4
      split at h4
      · simp only [Bool.and_eq_true, List.isEmpty_iff] at h4
        obtain ⟨g1, g2, rfl⟩ := h4
        exact s_nadd n1 n2 n3 n4 (sC a G.g tk G.eq h2).pe (okE_ix h3) (sC e G.g tk G.eq g1).pe g2 h5
      · cases h4
    · cases h
  | .put i a e, X, W, sc, st, G, tk, h => by
    simp only [chkS] at h
    unfold nPut at h
    split at h
    · simp only [Bool.and_eq_true] at h
      obtain ⟨h1, h2, h3, h4, h5⟩ := h
      obtain ⟨n1, n2, n3, n4⟩ := nm_var G h1
      exact s_put (o' := .Name "" ⟨0, 0, 0, 0⟩) n1 n2 n3 n4 (sC a G.g tk G.eq h2).pe (sC e G.g tk G.eq h4).pe h5 h3
    · cases h
  | .app i e, X, W, sc, st, G, tk, h => by
    simp only [chkS] at h
    unfold nMeth at h
    split at h
    · simp only [Bool.and_eq_true, decide_eq_true_eq] at h
      obtain ⟨h1, rfl, h3, h4⟩ := h
      obtain ⟨n1, n2, n3, n4⟩ := nm_var G h1
      simp only [chkEs] at h3
      unfold mCons at h3
      split at h3
      · simp only [Bool.and_eq_true, List.isEmpty_iff] at h3
        obtain ⟨g1, g2, rfl⟩ := h3
        exact s_app n1 n2 n3 n4 (sC e G.g tk G.eq g1).pe g2 h4
      · cases h3
    · cases h
  | .ext i e, X, W, sc, st, G, tk, h => by
    simp only [chkS] at h
    unfold nMeth at h
    split at h
    · simp only [Bool.and_eq_true, decide_eq_true_eq] at h
      obtain ⟨h1, rfl, h3, h4⟩ := h
      obtain ⟨n1, n2, n3, n4⟩ := nm_var G h1
      simp only [chkEs] at h3
      unfold mCons at h3
      split at h3
      · simp only [Bool.and_eq_true, List.isEmpty_iff] at h3
        obtain ⟨g1, g2, rfl⟩ := h3
        exact s_ext n1 n2 n3 n4 (sC e G.g tk G.eq g1).pe g2 h4
      · cases h3
    · cases h
  | .pop i, X, W, sc, st, G, tk, h => by
    simp only [chkS] at h
    unfold nMeth at h
    split at h
    · simp only [Bool.and_eq_true, decide_eq_true_eq] at h
      obtain ⟨h1, rfl, h3, h4⟩ := h
      obtain ⟨n1, n2, n3, n4⟩ := nm_var G h1
      simp only [chkEs, List.isEmpty_iff] at h3
      subst h3
      exact s_pop n1 n2 n3 n4 h4
    · cases h
  | .popA i a, X, W, sc, st, G, tk, h => by
    simp only [chkS] at h
    unfold nMeth at h
    split at h
    · simp only [Bool.and_eq_true, decide_eq_true_eq] at h
      obtain ⟨h1, rfl, h3, h4⟩ := h
      obtain ⟨n1, n2, n3, n4⟩ := nm_var G h1
      simp only [chkEs] at h3
      unfold mCons at h3
      split at h3
      · simp only [Bool.and_eq_true, List.isEmpty_iff] at h3
        obtain ⟨g1, g2, rfl⟩ := h3
        exact s_popA n1 n2 n3 n4 (sC a G.g tk G.eq g1).pe g2 h4
      · cases h3
    · cases h
  | .popTo j i, X, W, sc, st, G, tk, h => by
    simp only [chkS] at h
    unfold nPopTo at h
    split at h
    · simp only [Bool.and_eq_true, decide_eq_true_eq] at h
      obtain ⟨h1, rfl, h3, h4⟩ := h
      obtain ⟨n1, n2, n3, n4⟩ := nm_var G h1
      obtain ⟨m1, m2, m3⟩ := nm_get G h3
      exact s_popTo G.g.nd n1 n2 n3 n4 h4 m1 m2 m3
    · cases h
  | .aug i o e, X, W, sc, st, G, tk, h => by
    simp only [chkS] at h
    unfold nAug at h
    split at h
    · simp only [Bool.and_eq_true] at h
      obtain ⟨h1, h2, h3, h4⟩ := h
      obtain ⟨m1, m2, m3⟩ := nm_get G h1
      rw [opB_to h2]
      exact s_aug G.g.nd m1 m2 m3 (sC e G.g tk G.eq h3).pe (ip_all (by simpa using h4))
    · cases h
  | .exp e, X, W, sc, st, G, tk, h => by
    simp only [chkS] at h
    unfold nExp at h
    split at h
    · simp only [Bool.and_eq_true] at h
      exact s_exp (sC e G.g tk G.eq h.1).pe (sw_none (not_tup h.2))
    · cases h
  | .ret e, X, W, sc, st, G, tk, h => by
    simp only [chkS] at h
    unfold nRet at h
    split at h
    · exact s_ret (sC e G.g tk G.eq h).pe
    · cases h
  | .retN, X, W, sc, st, G, tk, h => by
    simp only [chkS] at h
    unfold nRetN at h
    split at h
    · exact s_retN
    · cases h
  | .ite c a b, X, W, sc, st, G, tk, h => by
    simp only [chkS] at h
    unfold nIte at h
    split at h
    · simp only [Bool.and_eq_true] at h
      obtain ⟨h1, h2, h3⟩ := h
      exact s_ite (sC c G.g tk G.eq h1).pt (sSs a G tk h2) (sSs b G tk h3)
    · cases h
  | .fr t kd es body, X, W, sc, st, G, tk, h => by
    simp only [chkS] at h
    unfold nFr at h
    split at h
    · simp only [Bool.and_eq_true] at h
      obtain ⟨h1, h2, h3, h4, h5⟩ := h
      exact s_fr G.po G.g.calm (s_it G.g G.eq h1 h2 (fun es' h => sCs es G.g tk G.eq h) h4) (pg_tg (cf := cf) G.g.calm G.g.nd G.g.eN G.at_ h1) (sSs body G tk h3) (okE_fold h5)
    · cases h
  | .wh c body, X, W, sc, st, G, tk, h => by
    simp only [chkS] at h
    unfold nWh at h
    split at h
    · simp only [Bool.and_eq_true] at h
      exact s_wh G.po (sC c G.g tk G.eq h.1).pt (sSs body G tk h.2)
    · cases h
  | .brk, X, W, sc, st, G, tk, h => by
    simp only [chkS] at h
    unfold nBrk at h
    split at h
    · exact s_brk
    · cases h
  | .cnt, X, W, sc, st, G, tk, h => by
    simp only [chkS] at h
    unfold nCnt at h
    split at h
    · exact s_cnt
    · cases h
  | .pas, X, W, sc, st, G, tk, h => by
    simp only [chkS] at h
    unfold nPas at h
    split at h
    · exact s_pas
    · cases h
  | .rai c es, X, W, sc, st, G, tk, h => by
    simp only [chkS] at h
    unfold nRai at h
    split at h
    · simp only [Bool.and_eq_true, decide_eq_true_eq, Bool.not_eq_true', decide_eq_false_iff_not] at h
      obtain ⟨h1, h2, h3, h4, h5, h6⟩ := h
      exact s_rai G.g tk (gl_of h2 G.eq) h1 (by rw [← G.g.rzE]; exact h5) (bne_ h6) (sCs es G.g tk G.eq h3) h4
    · cases h
  | .tri body hc hv hb, X, W, sc, st, G, tk, h => by
    simp only [chkS] at h
    unfold nTri at h
    split at h
    · rename_i body' hds pos
      simp only [Bool.and_eq_true, decide_eq_true_eq] at h
      obtain ⟨h1, h2, h3⟩ := h
      obtain ⟨i1, i2, i3, i4⟩ := chk_hs G hb hc hv h2
      cases hds with
      | nil =>
        have : hb = [] := by
          cases hb with
          | nil => rfl
          | cons b bs =>
            simp only [chkHs] at h2
            unfold nHd at h2
            split at h2
            · cases ‹([] : List ExceptHandler) = _›
            · cases ‹([] : List ExceptHandler) = _›
            · cases h2
        subst this
        simp at h3
      | cons h0 hds =>
        refine psI (ps_tryG (tb := fun V => tSs X.K P cl V body) G.hs G.hf G.g.nd tk (fun V qn ee tk' po => sSs body (G.tr qn ee po) tk' h1) i1) fun D σ H ⟨S0, LL, ρ, kk, R, hw, hk⟩ => ⟨S0, LL, ρ, _, R, hw, ⟨hk.nx, hk.rt, hk.bk, hk.ct, fun c fs cv dx LL' ρ' σ' H' R' f x q => ?_⟩⟩
        exact hd_read G.g R' (hk.from f) x hb hc hv i2 i3 i4 q
    · cases h
  | .kil is, X, W, sc, st, G, tk, h => by simp only [chkS, Bool.false_eq_true] at h
theorem sSs : ∀ (ss : List S) {X : Cx} {W : WX} {sc : Scope} {sts : List Stmt}, Gs X cf P cl k sc → Takes X W → chkSs cf sc ss sts = true → PSs X sts (tSs X.K P cl W ss)
  | [], X, W, sc, sts, G, tk, h => by
    simp only [chkSs] at h
    cases sts with
    | nil => exact ss_nil
    | cons _ _ => cases h
  | s :: ss, X, W, sc, sts, G, tk, h => by
    simp only [chkSs] at h
    split at h
    · rename_i ek
      cases s <;> simp only [isKil, Bool.false_eq_true] at ek
      exact ss_kil (sSs ss G tk h)
    · unfold nCons at h
      split at h
      · simp only [Bool.and_eq_true] at h
        exact ss_cons (sS s G tk h.1) (sSs ss G tk h.2)
      · cases h
end
end
end Uq

set_option maxHeartbeats 2000000
/-! Uq, part w: functions. -/
namespace Uq
open PySem PySem.Spec PyProof.Rows L2
/-- a def's parts stand as its function says -/
def chkD (cf : Cf) (f : Nat) (fn : Fn) (body : List Stmt) (sc : Scope) : Bool := decide (fn.np = (cf.prm f).length) && (decide (fn.ns = cf.N.length) && (decide (cf.N.take fn.np = cf.prm f) && (decide cf.N.Nodup && (decide (sc.kind = .function) && (!sc.isCoroutine && (!sc.isGenerator &&
  ((cf.prm f).all (fun p => isSt sc p) && ((sc.names.all fun y => !decide (y.2 = .free)) && chkSs cf sc fn.body body))))))))
/-- a def as it stands in the program -/
structure DfAt (Kf : PySem.W.Frag) (mg : Str → Option Value) (cf : Cf) (T : Nat → Option Fn) (x : Str) (f : Nat) (fa : Addr) (fd : FuncData) : Prop where
  ex : ∃ (fn : Fn) (N : List Str) (qual : Str) (a : Arguments) (body : List Stmt) (sc : Scope), mg x = some (.ref fa) ∧ PySem.W.keepIn Kf (.ref fa) = true ∧ Binds Kf fd (cf.prm f) [] ∧ (∀ n ks, (n, ks) ∈ cf.shp f → Shp Kf fd (cf.prm f) n ks) ∧
    T f = some fn ∧ FunD Kf x qual a body sc [] [] fa fd ∧ chkD { cf with N := N } f fn body sc = true
/-- .. with a star -/
structure DfAtV (Kf : PySem.W.Frag) (mg : Str → Option Value) (cf : Cf) (T : Nat → Option Fn) (x : Str) (f : Nat) (fa : Addr) (fd : FuncData) : Prop where
  ex : ∃ (fn : Fn) (N : List Str) (qual : Str) (a : Arguments) (body : List Stmt) (sc : Scope), mg x = some (.ref fa) ∧ PySem.W.keepIn Kf (.ref fa) = true ∧ BndV Kf fd (cf.prm f) ∧ (cf.prm f).length = 1 ∧
    T f = some fn ∧ FunD Kf x qual a body sc [] [] fa fd ∧ chkD { cf with N := N } f fn body sc = true
/-- the program -/
structure Pr (prog : Program) (w : World) (Kf : PySem.W.Frag) (mg : Str → Option Value) (base : Heap) (P : Pg) (cf : Cf) (T : Nat → Option Fn) (sub : Nat → Nat → Bool) : Prop where
  xa : P.xa = xa0
  bi : ∀ x ∈ biNames, mg x = none
  xc : ∀ x c, cf.xcI x = some c → mg x = some (.ref (P.CA c))
  rzE : cf.rz = P.rz
  made : ∀ c ∈ P.rz, XMk prog w Kf mg base (P.CA c) (P.flds c)
  subV : ∀ c ∈ P.rz, PySem.W.kitOne Kf (.ref (P.CA c)) (.type "ValueError") = some (sub c 1000)
  sub : ∀ c ∈ P.rz, ∀ x h, cf.xcI x = some h → PySem.W.exmOne Kf (.ref (P.CA c)) (.ref (P.CA h)) = some (sub c h) ∧ PySem.W.kitOne Kf (.ref (P.CA c)) (.ref (P.CA h)) = some (sub c h)
  exc : ∀ c ∈ P.rz, ExcC Kf (P.CA c) ∧ XfC Kf (P.CA c) ∧ ∀ f ∈ P.flds c, PySem.W.findIn Kf (.ref (P.CA c)) f = some none
  fn : ∀ x f, cf.fnI x = some f → ∃ fa fd, DfAt Kf mg cf T x f fa fd
  fv : ∀ x f, cf.fvI x = some f → ∃ fa fd, DfAtV Kf mg cf T x f fa fd
theorem start_get {fn : Fn} {ds : List D} {i : Nat} {s : Sl} (e : (start fn ds)[i]? = some s) : (∃ d, ds[i]? = some d ∧ s = .va d) ∨ s = .no := by
  unfold start at e
  by_cases h : i < ds.length
  · rw [List.getElem?_append_left (by rw [List.length_map]; exact h), List.getElem?_map] at e
    cases q : ds[i]? with
    | none => rw [q] at e; cases e
    | some d =>
      rw [q] at e
      exact .inl ⟨d, rfl, (Option.some.inj e).symm⟩
  · rw [List.getElem?_append_right (by rw [List.length_map]; omega), List.getElem?_replicate] at e
    split at e
    · exact .inr (Option.some.inj e).symm
    · cases e
theorem start_rel {Kf : PySem.W.Frag} {P : Pg} {S : Addr → Prop} {H : Hp} {fn : Fn} {N : List Str} {ds : List D} {vs : List V} (r : Rps Kf S H ds vs) (fr : ∀ a, H a = none → S a) (hn : ds.length = fn.np) (hN : fn.ns = N.length) (hle : fn.np ≤ N.length) :
    Rel Kf P S (fun _ => []) (start fn ds) (L2.start N vs) H where
  ln := by
    have := r.length
    unfold start L2.start
    simp only [List.length_append, List.length_map, List.length_replicate]
    omega
  slot := fun i s e => by
    rcases start_get e with ⟨d, ed, rfl⟩ | rfl
    · obtain ⟨v, ev, rv⟩ := r.get ed
      refine ⟨rfl, v, ?_, rv.wide fun a _ _ h => ⟨h, fun _ z => nomatch z⟩⟩
      have hl : i < vs.length := (List.getElem?_eq_some_iff.mp ev).1
      unfold L2.start
      rw [List.getElem?_append_left (by rw [List.length_map]; exact hl), List.getElem?_map, ev]
      rfl
    · rfl
  dj := fun _ _ _ h => nomatch h
  own := fun _ _ h => nomatch h
  fr := fr
theorem fm_same {LL : Ow} {H H' : Hp} (h : Fm (fun _ => []) H LL H') : Same H H' := fun a o e => h.1 a o e fun _ z => nomatch z
section
variable {prog : Program} {w : World} {Kf : PySem.W.Frag} {mg : Str → Option Value} {base : Heap} {P : Pg} {cf : Cf} {T : Nat → Option Fn} {sub : Nat → Nat → Bool}
theorem body_ok (R : Pr prog w Kf mg base P cf T sub) (n : Nat) (ih : ∀ (x : Str) (f : Nat) (fa : Addr) (fd : FuncData), DfAt Kf mg cf T x f fa fd → FnOk prog w Kf mg base (L2.CX prog w) (n + 2) fa fd (cf.prm f) (spF Kf P (cf.prm f).length (wC T sub P.flds n f)))
    (ihV : ∀ (x : Str) (f : Nat) (fa : Addr) (fd : FuncData), DfAtV Kf mg cf T x f fa fd → FnV prog w Kf mg base (L2.CX prog w) (n + 2) fa fd (cf.prm f) (spF Kf P (cf.prm f).length (wC T sub P.flds n f)))
    {f : Nat} {fn : Fn} {N : List Str} {qual : Str} {body : List Stmt} {sc : Scope} {fa : Addr} (h5 : T f = some fn) (h7 : chkD { cf with N := N } f fn body sc = true) : FnScope N (cf.prm f) sc ∧
    ∀ (cdv : Value) (A : Around) (outer : List PySem.Env) (s : Shared) (H : Hp) (vs : List V) (Q : VK) (E : XK), Room (n + 2) (A.deeper (envOfC qual sc s.heap.objs.size fa cdv)) → spF Kf P (cf.prm f).length (wC T sub P.flds (n + 1) f) vs H Q E →
      ∃ t, PSs (cxOf (L2.CX prog w) prog w Kf mg base N qual sc fa cdv A outer s H E) body t ∧ t { nx := fun _ H' => Q .non H', rt := Q } (L2.start N vs) H := by
    unfold chkD at h7
    simp only [Bool.and_eq_true, decide_eq_true_eq, Bool.not_eq_true', List.all_eq_true, decide_eq_false_iff_not] at h7
    obtain ⟨c1, c2, c3, c4, c5, c6, c7, c8, c9, c10⟩ := h7
    have cN : fn.ns = N.length := c2
    have cnd : N.Nodup := c4
    have cle : fn.np ≤ N.length := by
      have := congrArg List.length c3
      rw [List.length_take] at this
      have c1' : fn.np = (cf.prm f).length := c1
      omega
    have par : ∀ p ∈ cf.prm f, sc.names.lookup p = some .local ∨ sc.names.lookup p = some .cell := fun p hp => by
      have z := c8 p hp
      unfold isSt at z
      split at z
      · exact .inl (by assumption)
      · exact .inr (by assumption)
      · cases z
    have pre : N.take (cf.prm f).length = cf.prm f := by
      rw [← c1]
      exact c3
    have sc2 : FnScope N (cf.prm f) sc := ⟨c5, c6, c7, cnd, pre, par, fun y hy => c9 y hy⟩
    refine ⟨sc2, fun cdv A outer s H vs Q E hr hsp => ?_⟩
    · obtain ⟨ds, S, q, e, r, fr, hc, hl, hq, he⟩ := hsp
      unfold wC at hc
      rw [h5] at hc
      obtain ⟨hn, hc⟩ := hc
      have G : Gd (cxOf (L2.CX prog w) prog w Kf mg base N qual sc fa cdv A outer s H E) { cf with N := N } P ⟨wC T sub P.flds n, sub, P.flds⟩ (n + 2) :=
        ⟨rfl, cnd, rfl, hr, R.xa, R.bi, Nat.le_add_left _ _, R.xc, R.rzE, R.made, fun _ => rfl, R.sub, R.subV, R.exc, fun y g hy => by
          obtain ⟨ga, gd, hg⟩ := R.fn y g hy
          obtain ⟨_, _, _, _, _, _, g1, g2, g3, g4, _⟩ := id hg.ex
          exact ⟨ga, gd, g1, g2, ih y g ga gd hg, g3, g4⟩, fun y g hy => by
          obtain ⟨ga, gd, hg⟩ := R.fv y g hy
          obtain ⟨_, _, _, _, _, _, g1, g2, g3, g4, _⟩ := id hg.ex
          exact ⟨ga, gd, g1, g2, ihV y g ga gd hg, g3, g4⟩⟩
      have GS : Gs (cxOf (L2.CX prog w) prog w Kf mg base N qual sc fa cdv A outer s H E) { cf with N := N } P ⟨wC T sub P.flds n, sub, P.flds⟩ (n + 2) sc := by
        refine ⟨G, rfl, ⟨fun y hy => ⟨?_, .inl rfl⟩⟩, L2.passes_of rfl, c5, rfl, rfl⟩
        unfold isSt at hy
        split at hy
        · exact .inl (by assumption)
        · exact .inr (by assumption)
        · cases hy
      have tk : Takes (cxOf (L2.CX prog w) prog w Kf mg base N qual sc fa cdv A outer s H E) (fun cv dx _ H' => E cv dx H') := L2.takes_of rfl rfl rfl rfl
      refine ⟨_, sSs fn.body GS tk c10, S, fun _ => [], _, _, start_rel r fr hn cN cle, hc, ?_⟩
      exact ⟨fun LL' ρ' σ' H' R' f q' => hq .none .non H' (fm_same f) (by simp only [Rp]) q', fun d v LL' H' r' f q' => hq d v H' (fm_same f) r' q', fun _ _ _ _ _ _ z => z.elim, fun _ _ _ _ _ _ z => z.elim,
        fun c fs cv dx LL' ρ' σ' H' R' f x q' => he c fs cv dx H' (fm_same f) x q'⟩
theorem fn_both (R : Pr prog w Kf mg base P cf T sub) : ∀ n : Nat, (∀ (x : Str) (f : Nat) (fa : Addr) (fd : FuncData), DfAt Kf mg cf T x f fa fd → FnOk prog w Kf mg base (L2.CX prog w) (n + 2) fa fd (cf.prm f) (spF Kf P (cf.prm f).length (wC T sub P.flds n f))) ∧
    (∀ (x : Str) (f : Nat) (fa : Addr) (fd : FuncData), DfAtV Kf mg cf T x f fa fd → FnV prog w Kf mg base (L2.CX prog w) (n + 2) fa fd (cf.prm f) (spF Kf P (cf.prm f).length (wC T sub P.flds n f)))
  | 0 => by
    refine ⟨fun x f fa fd hx => ⟨fun vs H Q E h => ?_, fun A outer s H args us vs Q E hr he hb hv h => ?_⟩, fun x f fa fd hx => ⟨fun vs H Q E h => ?_, fun A outer s s1 H args us vs Q E hr kx he hb hv h => ?_⟩⟩
    all_goals
      obtain ⟨ds, S, q, e, _, _, hc, _⟩ := h
      exact hc.elim
  | n + 1 => by
    obtain ⟨ih, ihV⟩ := fn_both R n
    refine ⟨fun x f fa fd hx => ?_, fun x f fa fd hx => ?_⟩
    · obtain ⟨fn, N, qual, a, body, sc, h1, h2, h3, h4, h5, h6, h7⟩ := hx.ex
      obtain ⟨sc2, hb⟩ := body_ok (qual := qual) (fa := fa) R n ih ihV h5 h7
      exact h6.ok sc2 (fun vs H Q E ⟨ds, S, q, e, _, _, _, hl, _⟩ => hl) hb
    · obtain ⟨fn, N, qual, a, body, sc, h1, h2, h3, h4, h5, h6, h7⟩ := hx.ex
      obtain ⟨sc2, hb⟩ := body_ok (qual := qual) (fa := fa) R n ih ihV h5 h7
      exact FunD.okV h6 sc2 (fun vs H Q E ⟨ds, S, q, e, _, _, _, hl, _⟩ => hl) hb
theorem fn_ok (R : Pr prog w Kf mg base P cf T sub) (n : Nat) (x : Str) (f : Nat) (fa : Addr) (fd : FuncData) (hx : DfAt Kf mg cf T x f fa fd) : FnOk prog w Kf mg base (L2.CX prog w) (n + 2) fa fd (cf.prm f) (spF Kf P (cf.prm f).length (wC T sub P.flds n f)) :=
  (fn_both R n).1 x f fa fd hx
end
end Uq

set_option maxHeartbeats 2000000
/-! Uq, part x: from what is known of the program's objects to the program's facts. -/
namespace Uq
open PySem PySem.Spec PyProof.Rows L2
/-! ### a Hook with one more Bool -/
def obsU (fa : List He.Fa) (fn : List He.DefD) (ex : PySem.W.Frag → Bool) (K : PySem.W.Frag) : Bool × List He.FnW := ((fa.all fun f => f.ok K) && ((fn.all fun d => d.ok K) && ex K), fn.map fun d => He.fnW K d.at_)
def SaysU (fa : List He.Fa) (fn : List He.DefD) (ex : PySem.W.Frag → Bool) (K : PySem.W.Frag) : Prop := obsU fa fn ex K = (true, fn.map He.DefD.val)
def obsUG (n : Nat) (fa : List He.Fa) (fn : List He.DefD) (ex : PySem.W.Frag → Bool) (g : Addr → Option Obj) : Bool × List He.FnW := obsU fa fn ex (He.frG g (He.asD g n))
def hookU (n : Nat) (fa : List He.Fa) (fn : List He.DefD) (ex : PySem.W.Frag → Bool) : PySem.W.Hook where
  α := Bool × List He.FnW
  obs := fun s => obsUG n fa fn ex s.heap.get?
  val := fun _ => (true, fn.map He.DefD.val)
  says := fun _ h => ∃ Kf : PySem.W.Frag, Kf.In h ∧ SaysU fa fn ex Kf
  of := fun _ _ e => ⟨_, He.frG_in, e⟩
  keeps := fun _ _ _ ⟨Kf, hK, c⟩ k => ⟨Kf, PySem.W.Frag.In.keeps hK k, c⟩
theorem obsUG_eq {n : Nat} {fa : List He.Fa} {fn : List He.DefD} {ex : PySem.W.Frag → Bool} {g : Addr → Option Obj} {s : Shared} (h : ∀ a, g a = s.heap.get? a) : obsUG n fa fn ex g = (hookU n fa fn ex).obs s := by
  have eg : g = s.heap.get? := funext h
  rw [eg]; rfl
section
variable {fa : List He.Fa} {fn : List He.DefD} {ex : PySem.W.Frag → Bool} {Kf : PySem.W.Frag}
theorem SaysU.bools (c : SaysU fa fn ex Kf) : (∀ f ∈ fa, f.ok Kf = true) ∧ (∀ d ∈ fn, d.ok Kf = true) ∧ ex Kf = true := by
  have e : ((fa.all fun f => f.ok Kf) && ((fn.all fun d => d.ok Kf) && ex Kf)) = true := congrArg (·.1) c
  simp only [Bool.and_eq_true, List.all_eq_true] at e
  exact ⟨e.1, e.2.1, e.2.2⟩
theorem SaysU.def_ (c : SaysU fa fn ex Kf) (i : Nat) {d : He.DefD} (h : fn[i]? = some d) : ∃ fd, FunD Kf d.name d.qual d.params d.body d.scope (d.dvs Kf) (d.kws Kf) (He.fAd Kf d.at_) fd := by
  have e2 : (fn.map fun d => He.fnW Kf d.at_)[i]? = (fn.map He.DefD.val)[i]? := by rw [show (fn.map fun d => He.fnW Kf d.at_) = fn.map He.DefD.val from congrArg (·.2) c]
  rw [List.getElem?_map, List.getElem?_map, h] at e2
  exact He.DefD.funD (Option.some.inj e2) (c.bools.2.1 d (List.mem_of_getElem? h))
end
/-! ### exception classes -/
def oxB (Kf : PySem.W.Frag) (C : Addr) : Bool := match Kf.lookup C with
  | some ⟨.type "type", _, .cls cd, sl⟩ => (match cd.mro, sl.toList with
    | .ref C' :: bm, [_, _, _, _, some (.builtin n), _] => decide (C' = C) && (decide (n = "ValueError.__new__") && (!cd.hasDel && (cd.hasDict && HandSPX.refsVE bm)))
    | _, _ => false)
  | _ => false
theorem oxB_ok {Kf : PySem.W.Frag} {C : Addr} (h : oxB Kf C = true) : ∃ nm q N bs bm sn sub ab col dd k0 k1 k2 k3 k5, Kf.lookup C = some (excClassObj nm q C N bs bm true sn sub ab col dd k0 k1 k2 k3 k5 "ValueError.__new__") ∧ PySem.HandSPX.refsVE bm = true := by
  unfold oxB at h
  split at h
  · rename_i dd cd sl ho
    split at h
    · rename_i C' bm k0 k1 k2 k3 n k5 hm hs
      simp only [Bool.and_eq_true, decide_eq_true_eq, Bool.not_eq_true'] at h
      obtain ⟨rfl, rfl, h3, h4, h5⟩ := h
      obtain ⟨nm, bs, mro, ns, qn, hd, sn, sub, ab, col, del⟩ := cd
      dsimp only at hm h3 h4
      subst hm h3 h4
      have esl : sl = #[k0, k1, k2, k3, some (.builtin "ValueError.__new__"), k5] := by
        obtain ⟨l⟩ := sl
        simp only at hs
        rw [hs]
      subst esl
      exact ⟨nm, qn, ns, bs, bm, sn, sub, ab, col, dd, k0, k1, k2, k3, k5, ho, h5⟩
    · cases h
  · cases h
/-- all that is asked of a class that is raised -/
def xcB (Kf : PySem.W.Frag) (C : Addr) (fl : List Str) : Bool :=
  oxB Kf C && (decide (PySem.W.findIn Kf (.ref C) "__setattr__" = some (some (.builtin "object.__setattr__"))) && (decide (PySem.W.subIn Kf (.ref C) (.type "BaseException") = some true) && (decide (PySem.W.typeIn Kf (.ref C) = some (.type "type")) && (PySem.W.keepIn Kf (.ref C) &&
  (decide (PySem.W.findIn Kf (.ref C) "__getattribute__" = some (some (.builtin "BaseException.__getattribute__"))) && (decide (PySem.W.findIn Kf (.ref C) "__getattr__" = some none) && (PySem.W.hasDictIn Kf C && (decide (PySem.W.findIn Kf (.ref C) "__class__" = some (some (.builtin "object.__class__"))) &&
  (decide (PySem.W.specialIn Kf (.builtin "object.__class__") "__get__" = some (some (.builtin "getset_descriptor.__get__"))) && (decide (PySem.W.takesIn Kf (.builtin "object.__class__") = some true) && (decide (PySem.W.mroIn Kf C (.type "object") = some true) &&
  ((fl.all fun f => decide (PySem.W.findIn Kf (.ref C) f = some none)) && (decide (PySem.W.findIn Kf (.ref C) "__init__" = some (some (.ref (He.ma Kf C "__init__")))) && decide (PySem.W.typeIn Kf (.ref (He.ma Kf C "__init__")) = some (.type "function")))))))))))))))
structure XcK (Kf : PySem.W.Frag) (C : Addr) (fl : List Str) : Prop where
  oex : OexC Kf C
  exc : ExcC Kf C
  xf : XfC Kf C
  no : ∀ f ∈ fl, PySem.W.findIn Kf (.ref C) f = some none
  ini : PySem.W.findIn Kf (.ref C) "__init__" = some (some (.ref (He.ma Kf C "__init__")))
  ty : PySem.W.typeIn Kf (.ref (He.ma Kf C "__init__")) = some (.type "function")
theorem xcB_ok {Kf : PySem.W.Frag} {C : Addr} {fl : List Str} (h : xcB Kf C fl = true) : XcK Kf C fl := by
  unfold xcB at h
  simp only [Bool.and_eq_true, decide_eq_true_eq, List.all_eq_true] at h
  obtain ⟨h1, h2, h3, h4, h5, h6, h7, h8, h9, h10, h11, h12, h13, h14, h15⟩ := h
  exact ⟨⟨oxB_ok h1, h2, h3, h4, h5⟩, ⟨h6, h7, h3, h8, h9, h10, h11, h12⟩, ⟨h6, h7, h3, h8⟩, h13, h14, h15⟩
/-! ### __init__ -/
def chkI (self : Str) : List Str → List Str → List Stmt → Bool
  | [], [], [] => true
  | f :: fl, p :: ps, st :: r => (match st with
    | .Assign [.Attribute (.Name s _) f' _] (.Name p' _) _ => decide (s = self) && (decide (f' = f) && decide (p' = p))
    | _ => false) && chkI self fl ps r
  | _, _, _ => false
def tIni (Kf : PySem.W.Frag) : List Str → Nat → TS
  | [], _ => tNext
  | f :: fl, j => tSeq (tOst Kf f (tVar 0) (tVar j)) (tIni Kf fl (j + 1))
section
variable {X : Cx} {self : Str}
theorem ini_pss (h0 : X.N[0]? = some self) (vis : ∀ x ∈ X.N, Vis X.env.scope x) (nd : ∀ x ∈ X.N, (x == ("__debug__" : Str)) = false ∧ (x == ("__classdict__" : Str)) = false) : ∀ (fl ps : List Str) (body : List Stmt) (j : Nat), chkI self fl ps body = true → (∀ i p, ps[i]? = some p → X.N[j + i]? = some p) →
    PSs X body (tIni X.K fl j)
  | [], [], [], j, _, _ => pss_nil
  | f :: fl, p :: ps, st :: r, j, h, hp => by
    simp only [chkI, Bool.and_eq_true] at h
    obtain ⟨h1, h2⟩ := h
    have ih := ini_pss h0 vis nd fl ps r (j + 1) h2 fun i q e => by
      have := hp (i + 1) q e
      rw [← this]
      congr 1
      omega
    split at h1
    · simp only [Bool.and_eq_true, decide_eq_true_eq] at h1
      obtain ⟨rfl, rfl, rfl⟩ := h1
      have hj := hp 0 _ rfl
      have m0 := List.mem_of_getElem? h0
      have mj := List.mem_of_getElem? hj
      exact pss_cons (ps_ost (pe_var h0 (vis _ m0) (nd _ m0).1 (nd _ m0).2) (pe_var hj (vis _ mj) (nd _ mj).1 (nd _ mj).2) rfl) ih
    · cases h1
  | [], [], _ :: _, _, h, _ => by cases h
  | [], _ :: _, _, _, h, _ => by cases h
  | _ :: _, [], _, _, h, _ => by cases h
  | _ :: _, _ :: _, [], _, h, _ => by cases h
theorem ini_read {Kf : PySem.W.Frag} {C a d : Addr} {D : Ends} (T : OexC Kf C) (had : d ≠ a) {σ : L2.St} (h0 : σ[0]? = some (some (.ref a))) : ∀ (fl : List Str) (vs : List V) (j : Nat) (fs : List (Str × V)) (H : Hp), (∀ f ∈ fl, PySem.W.findIn Kf (.ref C) f = some none) → fl.length = vs.length → (∀ i v, vs[i]? = some v → σ[j + i]? = some (some v)) →
    fs.length + fl.length ≤ 900 → H a = some (exo a C (some d)) → H d = some (exd d fs) →
    (∀ H2, H2 a = some (exo a C (some d)) → H2 d = some (exd d ((fl.zip vs).reverse ++ fs)) → (∀ b, b ≠ a → b ≠ d → H2 b = H b) → D.nx σ H2) → tIni Kf fl j D σ H
  | [], [], j, fs, H, hno, hl, hv, hz, ea, ed, hq => hq H ea ed fun _ _ _ => rfl
  | f :: fl, v :: vs, j, fs, H, hno, hl, hv, hz, ea, ed, hq => by
    refine ⟨v, hv 0 v rfl, _, h0, a, C, rfl, T, hno f List.mem_cons_self, .inr ⟨d, fs, ea, ed, by simp only [List.length_cons] at hz; omega, ?_⟩⟩
    refine ini_read T had h0 fl vs (j + 1) ((f, v) :: fs) _ (fun g hg => hno g (List.mem_cons_of_mem _ hg)) (by simpa using hl) (fun i w e => ?_) (by simp only [List.length_cons] at hz ⊢; omega) (by rw [upd_ne (Ne.symm had)]; exact ea) upd_same fun H2 e1 e2 e3 => ?_
    · have := hv (i + 1) w e
      rw [← this]
      congr 1
      omega
    · refine hq H2 e1 (by rw [e2, List.zip_cons_cons, List.reverse_cons, List.append_assoc]; rfl) fun b n1 n2 => ?_
      rw [e3 b n1 n2, upd_ne n2]
  | [], _ :: _, _, _, _, _, hl, _, _, _, _, _ => by simp at hl
  | _ :: _, [], _, _, _, _, hl, _, _, _, _, _ => by simp at hl
end
/-- __init__'s parts -/
def chkN (fl : List Str) (ps : List Str) (body : List Stmt) (sc : Scope) : Bool := match ps with
  | self :: ps' => decide (fl ≠ []) && (decide (fl.length ≤ 100) && (decide (ps'.length = fl.length) && (chkI self fl ps' body && (decide (self :: ps').Nodup && (decide (sc.kind = .function) && (!sc.isCoroutine && (!sc.isGenerator && (((self :: ps').all fun p => decide (sc.names.lookup p = some .local)) &&
      ((sc.names.all fun y => !decide (y.2 = .free)) && (self :: ps').all fun p => !decide (p = "__debug__") && !decide (p = "__classdict__"))))))))))
  | [] => false
theorem made_of {prog : Program} {w : World} {Kf : PySem.W.Frag} {mg : Str → Option Value} {base : Heap} {C : Addr} {fl ps : List Str} {x qual : Str} {params : Arguments} {body : List Stmt} {sc : Scope} {fd : FuncData} (c : XcK Kf C fl) (F : FunD Kf x qual params body sc [] [] (He.ma Kf C "__init__") fd)
    (hb : Binds Kf fd ps []) (h : chkN fl ps body sc = true) : XMk prog w Kf mg base C fl := by
  unfold chkN at h
  split at h
  · rename_i self ps'
    simp only [Bool.and_eq_true, decide_eq_true_eq, List.all_eq_true, Bool.not_eq_true', decide_eq_false_iff_not] at h
    obtain ⟨h1, h2, h3, h4, h5, h6, h7, h8, h9, h10, h11⟩ := h
    refine ⟨c.oex, ⟨_, fd, self :: ps', c.ini, c.ty, ?_, hb⟩, h2⟩
    have S : FnScope (self :: ps') (self :: ps') sc := ⟨h6, h7, h8, h5, by simp, fun p hp => .inl (h9 p hp), fun y hy => h10 y hy⟩
    refine F.ok S (fun vs H Q E z => ?_) fun cdv A outer s H vs Q E hr z => ⟨tIni Kf fl 1, ?_, ?_⟩
    · rw [z.1, List.length_cons, h3]
    · exact ini_pss (X := cxOf CX0 prog w Kf mg base (self :: ps') qual sc (He.ma Kf C "__init__") cdv A outer s H E) (self := self) rfl (fun p hp => .inl (h9 p hp)) (fun p hp => ⟨bne_ (h11 p hp).1, bne_ (h11 p hp).2⟩) fl ps' body 1 h4 fun i p e => by
        show (self :: ps')[1 + i]? = some p
        rw [Nat.add_comm]
        exact e
    · obtain ⟨hl, a, vs', rfl, ha, hq⟩ := z
      have hlv : fl.length = vs'.length := by simpa using hl.symm
      have gets : ∀ i v, vs'[i]? = some v → (L2.start (self :: ps') (.ref a :: vs'))[1 + i]? = some (some v) := fun i v e => by
        unfold L2.start
        rw [Nat.add_comm, List.map_cons, List.cons_append, List.getElem?_cons_succ, List.getElem?_append_left (by rw [List.length_map]; exact (List.getElem?_eq_some_iff.mp e).1), List.getElem?_map, e]
        rfl
      cases fl with
      | nil => exact absurd rfl h1
      | cons f fl =>
        cases vs' with
        | nil => simp at hlv
        | cons v vs' =>
          refine ⟨v, gets 0 v rfl, _, rfl, a, C, rfl, c.oex, c.no f List.mem_cons_self, .inl ⟨ha, fun d hd hne => ?_⟩⟩
          have hna : a ≠ d := Ne.symm hne
          refine ini_read c.oex hne rfl fl vs' 2 [(f, v)] _ (fun g hg => c.no g (List.mem_cons_of_mem _ hg)) (by simpa using hlv) (fun i w e => ?_) (by simp only [List.length_cons, List.length_nil] at h2 ⊢; omega) upd_same (by rw [upd_ne hne]; exact upd_same) fun H2 e1 e2 e3 => ?_
          · have := gets (i + 1) w e
            rw [← this]
            congr 1
            omega
          · refine hq d H2 hd hne e1 (by rw [e2, List.zip_cons_cons, List.reverse_cons]) fun b n1 n2 => ?_
            rw [e3 b n1 n2, upd_ne n1, upd_ne n2]
  · cases h
end Uq

set_option maxHeartbeats 2000000
/-! Uq, part y: the law. -/
namespace Uq
open PySem PySem.Spec PyProof.Rows L2
theorem FunD.shp {Kf : PySem.W.Frag} {x qual : Str} {a : Arguments} {body : List Stmt} {sc : Scope} {f : Addr} {fd : FuncData} {ps : List Str} {n : Nat} {ks : List Str} (F : FunD Kf x qual a body sc [] [] f fd)
    (h : ∀ (kV doc pm : Value) (an : Option Addr) (cdv ct : Value) (us ws : List Value), us.length = n → ws.length = ks.length → bindArgs (PySem.W.fnOf x qual a body sc .none kV doc pm an cdv ct) ⟨us, ks.zip ws⟩ = pure (ps.zip (permU (pmOf ps n ks) us ws))) : Shp Kf fd ps n ks := by
  obtain ⟨oc, od, dV, kV, doc, pm, an, cdv, ct, osl, rfl, lk, hcd, hD, hK⟩ := F.ex
  rcases hD with ⟨_, rfl⟩ | ⟨e, _⟩
  · exact Shp.of fun s us ws _ l1 l2 => .of_eq (h kV doc pm an cdv ct us ws l1 l2)
  · exact absurd rfl e
theorem sh_nil {Q : Nat → List Str → Prop} : ∀ n ks, (n, ks) ∈ ([] : List (Nat × List Str)) → Q n ks := fun _ _ h => (List.not_mem_nil h).elim
theorem sh_cons {Q : Nat → List Str → Prop} {m : Nat} {js : List Str} {l : List (Nat × List Str)} (h : Q m js) (r : ∀ n ks, (n, ks) ∈ l → Q n ks) : ∀ n ks, (n, ks) ∈ (m, js) :: l → Q n ks := fun n ks hm => by
  rcases List.mem_cons.mp hm with e | e
  · cases e; exact h
  · exact r n ks e
section
variable {Kf : PySem.W.Frag} {mg : Str → Option Value} {cf : Cf} {T : Nat → Option Fn} {x : Str} {f : Nat} {fn : Fn} {st : Stmt}
abbrev FnS (Kf : PySem.W.Frag) (x : Str) (st : Stmt) (fd : FuncData) : Prop := FunD Kf x x (defArgs st) (defBody st) (defScope st) [] [] (He.ga Kf x) fd
theorem df_at (N : List Str) {fd : FuncData} (g : mg x = some (.ref (He.ga Kf x))) (F : FnS Kf x st fd) (hb : Binds Kf fd (cf.prm f) []) (hs : ∀ n ks, (n, ks) ∈ cf.shp f → Shp Kf fd (cf.prm f) n ks)
    (hT : T f = some fn) (hc : chkD { cf with N := N } f fn (defBody st) (defScope st) = true) : DfAt Kf mg cf T x f (He.ga Kf x) fd :=
  ⟨fn, N, x, _, _, _, g, F.kp, hb, hs, hT, F, hc⟩
theorem df_of (N : List Str) (g : mg x = some (.ref (He.ga Kf x))) (F : ∃ fd, FnS Kf x st fd) (hb : ∀ fd, FnS Kf x st fd → Binds Kf fd (cf.prm f) []) (hs : ∀ fd, FnS Kf x st fd → ∀ n ks, (n, ks) ∈ cf.shp f → Shp Kf fd (cf.prm f) n ks)
    (hT : T f = some fn) (hc : chkD { cf with N := N } f fn (defBody st) (defScope st) = true) : ∃ fa fd, DfAt Kf mg cf T x f fa fd :=
  let ⟨fd, F⟩ := F
  ⟨_, fd, ⟨fn, N, x, _, _, _, g, F.kp, hb fd F, hs fd F, hT, F, hc⟩⟩
theorem df_ofV (N : List Str) (g : mg x = some (.ref (He.ga Kf x))) (F : ∃ fd, FnS Kf x st fd) (hb : ∀ fd, FnS Kf x st fd → BndV Kf fd (cf.prm f)) (hl : (cf.prm f).length = 1)
    (hT : T f = some fn) (hc : chkD { cf with N := N } f fn (defBody st) (defScope st) = true) : ∃ fa fd, DfAtV Kf mg cf T x f fa fd :=
  let ⟨fd, F⟩ := F
  ⟨_, fd, ⟨fn, N, x, _, _, _, g, F.kp, hb fd F, hl, hT, F, hc⟩⟩
end
section
variable {prog : Program} {w : World} {Kf : PySem.W.Frag} {mg : Str → Option Value} {base : Heap} {P : Pg} {cf : Cf} {T : Nat → Option Fn} {sub : Nat → Nat → Bool} {x : Str} {f : Nat} {fa : Addr} {fd : FuncData} {ps : List Str}
/-- the law's promise -/
def spLaw (Kf : PySem.W.Frag) (P : Pg) (T : Nat → Option Fn) (sub : Nat → Nat → Bool) (n f : Nat) : Sp := fun vs H Q _ => spF Kf P 1 (wC T sub P.flds n f) vs H Q fun _ _ _ => False
theorem law_fn (R : Pr prog w Kf mg base P cf T sub) (hx : DfAt Kf mg cf T x f fa fd) (hp : cf.prm f = ps) (hl : ps.length = 1) (n : Nat) : FnOk prog w Kf mg base CX0 (n + 2) fa fd ps (spLaw Kf P T sub n f) := by
  have F := fn_ok R n x f fa fd hx
  rw [hp, hl] at F
  refine ⟨fun vs H Q E h => F.len vs H Q _ h, fun A outer s H args us vs Q E hr he hb hv h => codeAny_mono (F.run A outer s H args us vs Q (fun _ _ _ => False) hr he hb hv h) fun r s' q => ?_⟩
  cases r with
  | error e =>
    obtain ⟨_, _, _, _, _, _, _, _, _, _, _, _, z⟩ := q
    exact z.elim
  | ok fl => cases fl <;> exact q
theorem law_sp {n most : Nat} (h : ∀ ns : List Int, ns.length ≤ most → wC T sub P.flds n f [lk ns] (fun d => d = .bool true) fun _ _ => False) (H : Hp) (a : Addr) (ns : List Int) (hl : ns.length ≤ most) (hO : Only H) (hS : SqL Kf H a (ns.map V.int)) :
    spLaw Kf P T sub n f [.ref a] H (fun v _ => v = .bl true) fun _ _ _ => False := by
  have hk : LkL Kf H a (ns.map V.int) := by
    rcases hS with hS | hS
    · rcases hS with hS | ⟨o, hS⟩
      · rcases hO a with z | ⟨o, xs, z⟩
        · rw [hS] at z; cases z
        · rw [hS] at z; cases z
      · exact .inl ⟨o, hS⟩
    · exact .inr hS
  refine ⟨[lk ns], fun _ => True, _, _, .one ?_, fun _ _ => trivial, h ns hl, rfl, fun d v H' _ r q => ?_, fun k fs cv dx H' _ _ q => q.elim⟩
  · unfold lk
    simp only [Rp]
    exact ⟨a, ns, rfl, hk, rfl⟩
  · subst q
    exact r.bl_
end
end Uq
namespace Uq
open PySem
/-- a name's place -/
def ixOf : List Str → Str → Option Nat
  | [], _ => none
  | y :: r, x => if x = y then some 0 else (ixOf r x).map (· + 1)
theorem ixOf_get : ∀ {l : List Str} {x : Str} {i : Nat}, ixOf l x = some i → l[i]? = some x
  | [], x, i, h => by cases h
  | y :: r, x, i, h => by
    unfold ixOf at h
    split at h
    · rename_i e
      cases h
      rw [e]; rfl
    · cases q : ixOf r x with
      | none => rw [q] at h; cases h
      | some j =>
        rw [q] at h
        have e : j + 1 = i := Option.some.inj h
        subst e
        show r[j]? = some x
        exact ixOf_get q
theorem getD_of {l : List Str} {x d : Str} {i : Nat} (h : l[i]? = some x) : l.getD i d = x := by
  rw [List.getD_eq_getElem?_getD, h]; rfl
end Uq

set_option maxHeartbeats 0
namespace K30
open PySem Uq
abbrev f_is_integer : Nat := 0
abbrev f_is_number : Nat := 1
abbrev f_e_is_chord : Nat := 2
abbrev f_e_chord_fault : Nat := 3
abbrev f_lets_cutting : Nat := 4
abbrev f_is_cutting : Nat := 5
abbrev f_e_need_cutting : Nat := 6
abbrev f_e_need_corners : Nat := 7
abbrev f_e_need_number : Nat := 8
abbrev f_e_cutting_of : Nat := 9
abbrev f_e_neighbour_table : Nat := 10
abbrev f_e_price_list : Nat := 11
abbrev f_e_need_corner_below : Nat := 12
abbrev f_fan : Nat := 13
abbrev f_first_chords : Nat := 14
abbrev f_first_joins : Nat := 15
abbrev f_answer_price : Nat := 16
abbrev f_step_joins : Nat := 17
abbrev f_least_first : Nat := 18
abbrev f_over_least : Nat := 19
abbrev f_is_least_always : Nat := 20
abbrev f__law_base : Nat := 21
abbrev f__law_rows : Nat := 22
abbrev f__law_same : Nat := 23
abbrev f__law_all : Nat := 24
abbrev f__law_split : Nat := 25
abbrev f__law_fan : Nat := 26
abbrev f__law_ends : Nat := 27
abbrev f__law_unrolled : Nat := 28
abbrev f__law_rounds : Nat := 29
abbrev f__law_cost : Nat := 30
abbrev f__law_ask : Nat := 31
abbrev f__law_drawn : Nat := 32
abbrev f__law_answers : Nat := 33
abbrev f__law_least : Nat := 34
abbrev f__law_wish : Nat := 35
abbrev f__law_great : Nat := 36
abbrev f__law_typed : Nat := 37
abbrev f__law_refusals : Nat := 38
abbrev f_law : Nat := 39
def rz : List Nat := [4, 5]
def xcN : List Str := [Str.ofString "UnderError", Str.ofString "PaperError", Str.ofString "AskError", Str.ofString "CuttingError", Str.ofString "InvalidPaper", Str.ofString "NotUsable"]
def flds (c : Nat) : List Str := match c with
  | 4 => [Str.ofString "word", Str.ofString "at"]
  | 5 => [Str.ofString "word", Str.ofString "at"]
  | _ => []
def sub (a b : Nat) : Bool := match a, b with
  | 0, 0 => true
  | 0, 1000 => true
  | 1, 0 => true
  | 1, 1 => true
  | 1, 1000 => true
  | 2, 0 => true
  | 2, 2 => true
  | 2, 1000 => true
  | 3, 0 => true
  | 3, 3 => true
  | 3, 1000 => true
  | 4, 0 => true
  | 4, 1 => true
  | 4, 4 => true
  | 4, 1000 => true
  | 5, 0 => true
  | 5, 2 => true
  | 5, 5 => true
  | 5, 1000 => true
  | _, _ => false
def fn_is_integer : Fn := ⟨1, 1, [
  .ret (.and (.isi (.var 0) [.int]) (.not (.isi (.var 0) [.bool])))]⟩
def fn_is_number : Fn := ⟨1, 1, [
  .ret (.and (.call f_is_integer [] [(.var 0)]) (.cmp .ge (.var 0) (.int 0)))]⟩
def fn_e_is_chord : Fn := ⟨2, 4, [
  .ite (.or (.not (.isi (.var 1) [.tuple])) (.cmp .ne (.bi .len [(.var 1)]) (.int 2))) [.ret (.bl false)] [],
  .unp [2, 3] (.var 1),
  .ite (.or (.not (.call f_is_number [] [(.var 2)])) (.not (.call f_is_number [] [(.var 3)]))) [.ret (.bl false)] [],
  .ite (.or (.cmp .ge (.var 3) (.var 0)) (.cmp .lt (.bin .sub (.var 3) (.var 2)) (.int 2))) [.ret (.bl false)] [],
  .ret (.or (.cmp .gt (.var 2) (.int 0)) (.cmp .lt (.var 3) (.bin .sub (.var 0) (.int 1))))]⟩
def fn_e_chord_fault : Fn := ⟨3, 6, [
  .asg 3 (.ixo 1 (.var 2)),
  .ite (.not (.call f_e_is_chord [] [(.var 0), (.var 3)])) [.ret (.str "chord")] [],
  .ite (.and (.cmp .gt (.var 2) (.int 0)) (.cmp .le (.var 3) (.ixo 1 (.bin .sub (.var 2) (.int 1))))) [.ret (.str "order")] [],
  .fr (.tp [4, 5]) .val [(.sl (.var 1) .non (.var 2))] [.ite (.chn3 .lt .lt .lt (.var 4) (.ixo 3 (.int 0)) (.var 5) (.ixo 3 (.int 1))) [.ret (.str "cross")] [], .kil [4, 5]],
  .kil [3, 4, 5],
  .ret .non]⟩
def fn_lets_cutting : Fn := ⟨1, 5, [
  .ite (.or (.not (.isi (.var 0) [.tuple])) (.cmp .ne (.bi .len [(.var 0)]) (.int 2))) [.rai 4 [(.str "shape"), (.neg (.int 1))]] [],
  .unp [1, 2] (.var 0),
  .ite (.or (.not (.call f_is_integer [] [(.var 1)])) (.cmp .lt (.var 1) (.int 2))) [.rai 4 [(.str "corners"), (.neg (.int 1))]] [],
  .ite (.not (.isi (.var 2) [.tuple])) [.rai 4 [(.str "chords"), (.neg (.int 1))]] [],
  .fr (.nm 3) .rng1 [(.bi .len [(.var 2)])] [.asg 4 (.call f_e_chord_fault [] [(.var 1), (.var 2), (.var 3)]), .ite (.isN true (.var 4)) [.rai 4 [(.var 4), (.var 3)]] [], .kil [3, 4]],
  .kil [3, 4],
  .ite (.cmp .lt (.bi .len [(.var 2)]) (.bin .sub (.var 1) (.int 3))) [.rai 4 [(.str "many"), (.neg (.int 1))]] [],
  .ret (.bi .len [(.var 2)])]⟩
def fn_is_cutting : Fn := ⟨1, 1, [
  .tri [.exp (.call f_lets_cutting [] [(.var 0)])] [4] [none] [[.ret (.bl false)]],
  .ret (.bl true)]⟩
def fn_e_need_cutting : Fn := ⟨1, 1, [
  .ite (.not (.call f_is_cutting [] [(.var 0)])) [.rai 5 [(.str "cutting"), (.neg (.int 1))]] []]⟩
def fn_e_need_corners : Fn := ⟨1, 1, [
  .ite (.or (.not (.call f_is_integer [] [(.var 0)])) (.cmp .lt (.var 0) (.int 2))) [.rai 5 [(.str "corners"), (.neg (.int 1))]] []]⟩
def fn_e_need_number : Fn := ⟨2, 2, [
  .ite (.not (.call f_is_number [] [(.var 1)])) [.rai 5 [(.var 0), (.neg (.int 1))]] []]⟩
def fn_e_cutting_of : Fn := ⟨2, 6, [
  .asg 2 (.ssc (.tup [(.bi .min [(.var 3), (.var 4)]), (.bi .max [(.var 3), (.var 4)])]) (.tp [3, 4]) .val [(.var 1)]),
  .ret (.tup [(.var 0), (.bi .tuple [(.lc (.var 5) (.nm 5) .val [(.var 2)] [(.call f_e_is_chord [] [(.var 0), (.var 5)])])])])]⟩
def fn_e_neighbour_table : Fn := ⟨1, 10, [
  .unp [1, 2] (.var 0),
  .asg 3 (.bin .add (.lc (.tup [(.var 4), (.bin .add (.var 4) (.int 1))]) (.nm 4) .rng1 [(.bin .sub (.var 1) (.int 1))] []) (.bi .list [(.var 2)])),
  .ite (.cmp .gt (.var 1) (.int 2)) [.app 3 (.tup [(.int 0), (.bin .sub (.var 1) (.int 1))])] [],
  .nlc 5 (.lst []) (.nm 6) .rng1 [(.var 1)],
  .kil [1, 2],
  .fr (.tp [7, 8]) .val [(.var 3)] [.nadd 5 (.var 7) (.var 8), .nadd 5 (.var 8) (.var 7), .kil [7, 8]],
  .kil [7, 8],
  .ret (.lc (.bi .sorted [(.var 9)]) (.nm 9) .val [(.var 5)] [])]⟩
def fn_e_price_list : Fn := ⟨1, 2, [
  .ret (.lc (.bin .sub (.bi .len [(.var 1)]) (.int 1)) (.nm 1) .val [(.call f_e_neighbour_table [] [(.var 0)])] [])]⟩
def fn_e_need_corner_below : Fn := ⟨2, 2, [
  .exp (.call f_e_need_corners [] [(.var 0)]),
  .ite (.or (.not (.call f_is_number [] [(.var 1)])) (.cmp .ge (.var 1) (.var 0))) [.rai 5 [(.str "corner"), (.neg (.int 1))]] []]⟩
def fn_fan : Fn := ⟨2, 3, [
  .exp (.call f_e_need_corner_below [] [(.var 0), (.var 1)]),
  .ret (.call f_e_cutting_of [] [(.var 0), (.lc (.tup [(.var 1), (.var 2)]) (.nm 2) .rng1 [(.var 0)] [])])]⟩
def fn_first_chords : Fn := ⟨2, 6, [
  .exp (.call f_e_need_cutting [] [(.var 0)]),
  .exp (.call f_e_need_number [] [(.str "many"), (.var 1)]),
  .asg 2 (.lc (.bi .max [(.int 0), (.bin .sub (.var 3) (.int 1))]) (.nm 3) .val [(.call f_e_price_list [] [(.var 0)])] []),
  .unp [4, 5] (.bi .divmod [(.var 1), (.ixo 0 (.int 0))]),
  .ret (.bin .add (.bin .mul (.var 4) (.bi .sum [(.var 2)])) (.bi .sum [(.sl (.var 2) .non (.var 5))]))]⟩
def fn_first_joins : Fn := ⟨2, 3, [
  .exp (.call f_e_need_cutting [] [(.var 0)]),
  .exp (.call f_e_need_number [] [(.str "many"), (.var 1)]),
  .asg 2 (.ixo 0 (.int 0)),
  .ite (.or (.cmp .eq (.var 1) (.int 0)) (.cmp .eq (.var 2) (.int 2))) [.ret (.int 0)] [],
  .ret (.bin .add (.bin .sub (.bin .add (.var 1) (.var 2)) (.int 3)) (.call f_first_chords [] [(.var 0), (.bin .sub (.var 1) (.int 1))]))]⟩
def fn_answer_price : Fn := ⟨2, 3, [
  .exp (.call f_e_need_cutting [] [(.var 0)]),
  .exp (.call f_e_need_number [] [(.str "answer"), (.var 1)]),
  .asg 2 (.ixo 0 (.int 0)),
  .ite (.cmp .eq (.var 1) (.int 0)) [.ret (.bin .sub (.var 2) (.int 2))] [],
  .ret (.ix (.call f_e_price_list [] [(.var 0)]) (.bin .mod (.bin .sub (.var 1) (.int 1)) (.var 2)))]⟩
def fn_step_joins : Fn := ⟨2, 5, [
  .exp (.call f_e_need_cutting [] [(.var 0)]),
  .ite (.or (.not (.call f_is_integer [] [(.var 1)])) (.cmp .lt (.var 1) (.int 1))) [.rai 5 [(.str "step"), (.neg (.int 1))]] [],
  .asg 2 (.ixo 0 (.int 0)),
  .asg 3 (.ix (.call f_e_neighbour_table [] [(.var 0)]) (.bin .mod (.var 1) (.var 2))),
  .ite (.cmp .ge (.var 1) (.var 2)) [.ret (.bin .sub (.bi .len [(.var 3)]) (.int 1))] [],
  .ret (.bi .len [(.lc (.var 4) (.nm 4) .val [(.var 3)] [(.cmp .lt (.var 4) (.bin .sub (.var 1) (.int 1)))])])]⟩
def fn_least_first : Fn := ⟨2, 5, [
  .ite (.or (.not (.call f_is_integer [] [(.var 0)])) (.cmp .lt (.var 0) (.int 1))) [.rai 5 [(.str "width"), (.neg (.int 1))]] [],
  .exp (.call f_e_need_number [] [(.str "many"), (.var 1)]),
  .ite (.or (.cmp .eq (.var 1) (.int 0)) (.cmp .eq (.var 0) (.int 1))) [.ret (.int 0)] [],
  .unp [2, 3] (.bi .divmod [(.bin .sub (.var 1) (.int 1)), (.bin .add (.var 0) (.int 1))]),
  .ite (.cmp .eq (.var 3) (.var 0)) [.asg 4 (.bin .sub (.var 0) (.int 2))] [.asg 4 (.bi .max [(.int 0), (.bin .sub (.var 3) (.int 1))])],
  .ret (.bin .add (.bin .add (.var 1) (.bin .mul (.bin .sub (.var 0) (.int 2)) (.bin .add (.int 1) (.bin .mul (.int 2) (.var 2))))) (.var 4))]⟩
def fn_over_least : Fn := ⟨2, 2, [
  .exp (.call f_e_need_cutting [] [(.var 0)]),
  .exp (.call f_e_need_number [] [(.str "many"), (.var 1)]),
  .ret (.bin .sub (.call f_first_joins [] [(.var 0), (.var 1)]) (.call f_least_first [] [(.bin .sub (.ixo 0 (.int 0)) (.int 1)), (.var 1)]))]⟩
def fn_is_least_always : Fn := ⟨1, 2, [
  .exp (.call f_e_need_cutting [] [(.var 0)]),
  .asg 1 (.ixo 0 (.int 0)),
  .ret (.cmp .eq (.var 0) (.call f_fan [] [(.var 1), (.bin .sub (.var 1) (.int 1))]))]⟩
def fn__law_base : Fn := ⟨1, 4, [
  .asg 1 (.int 55333),
  .fr (.nm 2) .rng1 [(.bi .len [(.var 0)])] [.asg 3 (.ixo 0 (.var 2)), .ite (.cmp .lt (.var 3) (.int 0)) [.asg 3 (.bin .sub (.int 17) (.bin .mul (.int 2) (.var 3)))] [], .asg 1 (.bin .mod (.bi .int [(.bin .add (.bin .add (.bin .mul (.var 1) (.int 70001)) (.var 3)) (.bin .mul (.int 41) (.var 2)))]) (.int 2147483543)), .kil [2, 3]],
  .kil [2, 3],
  .ret (.var 1)]⟩
def fn__law_rows : Fn := ⟨5, 10, [
  .asg 5 (.int 0),
  .ite (.cmp .lt (.var 2) (.bi .len [(.var 0)])) [.asg 5 (.ixo 0 (.var 2))] [],
  .ite (.cmp .lt (.var 5) (.int 0)) [.asg 5 (.bin .sub (.int 17) (.bin .mul (.int 2) (.var 5)))] [],
  .asg 6 (.cmp .ge (.var 5) (.bin .pow (.int 10) (.int 18))),
  .asg 7 (.lst []),
  .fr (.nm 8) .rng1 [(.var 3)] [.ite (.and (.var 6) (.cmp .gt (.var 5) (.int 0))) [.app 7 (.bin .mod (.bi .int [(.var 5)]) (.var 4)), .asg 5 (.bin .fdiv (.var 5) (.var 4))] [.asg 9 (.bin .mod (.bi .int [(.bin .add (.bin .add (.var 1) (.bin .mul (.int 7489) (.var 2))) (.bin .mul (.int 104395301) (.var 8)))]) (.int 2147483549)), .asg 9 (.bin .mod (.bi .int [(.bin .add (.bin .add (.bin .mul (.var 9) (.var 9)) (.bin .mul (.int 41) (.var 8))) (.int 3))]) (.int 2147483629)), .asg 9 (.bin .mod (.bi .int [(.bin .add (.bin .mul (.var 9) (.var 9)) (.var 1))]) (.int 2147483579)), .app 7 (.bin .mod (.bi .int [(.var 9)]) (.var 4))], .kil [8, 9]],
  .kil [5, 6, 8, 9],
  .ret (.var 7)]⟩
def fn__law_same : Fn := ⟨2, 3, [
  .ite (.isN false (.var 1)) [.ret (.isN false (.var 0))] [],
  .ite (.isi (.var 1) [.bool]) [.ret (.and (.isi (.var 0) [.bool]) (.cmp .eq (.var 0) (.var 1)))] [],
  .ite (.isi (.var 1) [.int]) [.ret (.and (.isi (.var 0) [.int]) (.and (.not (.isi (.var 0) [.bool])) (.cmp .eq (.var 0) (.var 1))))] [],
  .ite (.isi (.var 1) [.str]) [.ret (.and (.isi (.var 0) [.str]) (.cmp .eq (.var 0) (.var 1)))] [],
  .ite (.or (.not (.isi (.var 0) [.tuple])) (.cmp .ne (.bi .len [(.var 0)]) (.bi .len [(.var 1)]))) [.ret (.bl false)] [],
  .fr (.nm 2) .rng1 [(.bi .len [(.var 1)])] [.ite (.not (.call f__law_same [] [(.ixo 0 (.var 2)), (.ixo 1 (.var 2))])) [.ret (.bl false)] [], .kil [2]],
  .kil [2],
  .ret (.bl true)]⟩
def fn__law_all : Fn := ⟨1, 10, [
  .asg 1 (.lst [(.lst []), (.lst []), (.lst [(.lst [])])]),
  .fr (.nm 2) .rng2 [(.int 3), (.bin .add (.var 0) (.int 1))] [.asg 3 (.lst []), .kil [4, 5, 6, 7, 8, 9], .fr (.nm 4) .rng2 [(.int 1), (.bin .sub (.var 2) (.int 1))] [.kil [5, 6, 7, 8, 9], .fr (.nm 5) .val [(.ixo 1 (.bin .add (.var 4) (.int 1)))] [.kil [6, 7, 8, 9], .fr (.nm 6) .val [(.ixo 1 (.bin .sub (.var 2) (.var 4)))] [.asg 7 (.bi .list [(.var 5)]), .ite (.cmp .gt (.var 4) (.int 1)) [.app 7 (.tup [(.int 0), (.var 4)])] [], .ite (.cmp .gt (.bin .sub (.bin .sub (.var 2) (.int 1)) (.var 4)) (.int 1)) [.app 7 (.tup [(.var 4), (.bin .sub (.var 2) (.int 1))])] [], .kil [8, 9], .fr (.tp [8, 9]) .val [(.var 6)] [.app 7 (.tup [(.bin .add (.var 8) (.var 4)), (.bin .add (.var 9) (.var 4))]), .kil [8, 9]], .kil [8, 9], .app 3 (.bi .sorted [(.var 7)]), .kil [6, 7, 8, 9]], .kil [5, 6, 7, 8, 9], .kil [5, 6, 7, 8, 9]], .kil [4, 5, 6, 7, 8, 9], .kil [4, 5, 6, 7, 8, 9]], .kil [2, 4, 5, 6, 7, 8, 9], .app 1 (.var 3), .kil [2, 3, 4, 5, 6, 7, 8, 9]],
  .kil [2, 3, 4, 5, 6, 7, 8, 9],
  .ret (.ixo 1 (.var 0))]⟩
def fn__law_split : Fn := ⟨2, 10, [
  .asg 2 (.lst []),
  .asg 3 (.lst [(.tup [(.int 0), (.bin .sub (.var 0) (.int 1))])]),
  .fr (.nm 4) .rng1 [(.var 0)] [.ite (.not (.var 3)) [.kil [4, 5, 6, 7, 8, 9], .brk] [], .popU [5, 6] 3, .ite (.cmp .gt (.bin .sub (.var 6) (.var 5)) (.int 1)) [.asg 7 (.bin .add (.bin .add (.var 5) (.int 1)) (.bin .mod (.bi .int [(.ixo 1 (.var 4))]) (.bin .sub (.bin .sub (.var 6) (.var 5)) (.int 1)))), .kil [4, 8, 9], .fr (.tp [8, 9]) .val [(.lst [(.tup [(.var 5), (.var 7)]), (.tup [(.var 7), (.var 6)])])] [.ite (.cmp .gt (.bin .sub (.var 9) (.var 8)) (.int 1)) [.app 2 (.tup [(.var 8), (.var 9)]), .app 3 (.tup [(.var 8), (.var 9)])] [], .kil [8, 9]], .kil [8, 9]] [], .kil [4, 5, 6, 7, 8, 9]],
  .kil [3, 4, 5, 6, 7, 8, 9],
  .ret (.bi .tuple [(.bi .sorted [(.var 2)])])]⟩
def fn__law_fan : Fn := ⟨2, 4, [
  .asg 2 (.lst []),
  .fr (.nm 3) .rng1 [(.var 0)] [.ite (.and (.cmp .ne (.var 3) (.var 1)) (.and (.cmp .ne (.bi .abs [(.bin .sub (.var 3) (.var 1))]) (.int 1)) (.cmp .ne (.bi .abs [(.bin .sub (.var 3) (.var 1))]) (.bin .sub (.var 0) (.int 1))))) [.app 2 (.tup [(.bi .min [(.var 3), (.var 1)]), (.bi .max [(.var 3), (.var 1)])])] [], .kil [3]],
  .kil [3],
  .ret (.bi .tuple [(.bi .sorted [(.var 2)])])]⟩
def fn__law_ends : Fn := ⟨2, 6, [
  .asg 2 (.lc (.int 0) (.nm 3) .rng1 [(.var 0)] []),
  .fr (.tp [4, 5]) .val [(.var 1)] [.put 2 (.var 4) (.bin .add (.ixo 2 (.var 4)) (.int 1)), .put 2 (.var 5) (.bin .add (.ixo 2 (.var 5)) (.int 1)), .kil [4, 5]],
  .kil [4, 5],
  .ret (.var 2)]⟩
def fn__law_unrolled : Fn := ⟨3, 14, [
  .nnew 3,
  .fr (.nm 4) .rng1 [(.var 0)] [.nappE 3 (.lst [(.bin .mod (.bi .int [(.bin .add (.var 4) (.int 1))]) (.var 0)), (.bin .mod (.bi .int [(.bin .sub (.var 4) (.int 1))]) (.var 0))]), .kil [4]],
  .kil [4],
  .kil [4],
  .fr (.tp [5, 6]) .val [(.var 1)] [.nadd 3 (.var 5) (.var 6), .nadd 3 (.var 6) (.var 5), .kil [5, 6]],
  .kil [5, 6],
  .dnew 7 true,
  .asg 8 (.lc (.int 0) (.nm 9) .rng1 [(.var 2)] []),
  .asg 10 (.lc (.int 0) (.nm 9) .rng1 [(.bin .add (.var 2) (.var 0))] []),
  .kil [4, 5, 6],
  .fr (.nm 9) .rng1 [(.var 2)] [.asg 11 (.lst [(.tup [(.var 9), (.bin .sub (.bin .add (.var 9) (.var 0)) (.int 1))])]), .kil [4, 5, 6, 12, 13], .fr (.nm 12) .rng1 [(.bin .add (.bin .mul (.int 2) (.var 0)) (.int 2))] [.ite (.not (.var 11)) [.kil [5, 6, 12, 13], .brk] [], .popU [5, 6] 11, .ite (.and (.cmp .gt (.bin .sub (.var 6) (.var 5)) (.int 1)) (.dq (.mem true) true [(.var 5), (.var 6)] 7 [])) [.dput 7 true [(.var 5), (.var 6)] (.bl true), .put 8 (.var 9) (.bin .add (.ixo 8 (.var 9)) (.int 1)), .put 10 (.var 6) (.bin .add (.ixo 10 (.var 6)) (.int 1)), .kil [4, 12, 13], .fr (.nm 13) .rng2 [(.bin .add (.var 5) (.int 1)), (.var 6)] [.ite (.and (.mem false (.bin .mod (.bi .int [(.var 13)]) (.var 0)) (.ix (.var 3) (.bin .mod (.bi .int [(.var 5)]) (.var 0)))) (.mem false (.bin .mod (.bi .int [(.var 13)]) (.var 0)) (.ix (.var 3) (.bin .mod (.bi .int [(.var 6)]) (.var 0))))) [.app 11 (.tup [(.var 5), (.var 13)]), .app 11 (.tup [(.var 13), (.var 6)])] [], .kil [13]], .kil [5, 6, 13]] [], .kil [5, 6, 12, 13]], .kil [5, 6, 9, 11, 12, 13], .kil [5, 6, 9, 11, 12, 13]],
  .kil [3, 5, 6, 7, 9, 11, 12, 13],
  .ret (.tup [(.var 8), (.var 10)])]⟩
def fn__law_rounds : Fn := ⟨3, 5, [
  .asg 3 (.bin .mul (.bin .fdiv (.var 2) (.var 0)) (.bi .sum [(.var 1)])),
  .fr (.nm 4) .rng1 [(.bin .mod (.bi .int [(.var 2)]) (.var 0))] [.asg 3 (.bin .add (.var 3) (.ixo 1 (.var 4))), .kil [4]],
  .kil [4],
  .ret (.var 3)]⟩
def fn__law_cost : Fn := ⟨3, 3, [
  .ite (.or (.cmp .eq (.var 2) (.int 0)) (.cmp .eq (.var 0) (.int 2))) [.ret (.int 0)] [],
  .ret (.bin .add (.bin .sub (.bin .add (.var 2) (.var 0)) (.int 3)) (.call f__law_rounds [] [(.var 0), (.var 1), (.bin .sub (.var 2) (.int 1))]))]⟩
def fn__law_ask : Fn := ⟨3, 5, [
  .asg 3 .non,
  .tri [.ite (.cmp .eq (.var 0) (.int 0)) [.asg 3 (.call f_first_chords [] [(.var 1), (.var 2)])] [.ite (.cmp .eq (.var 0) (.int 1)) [.asg 3 (.call f_first_chords [1, 0] [(.var 2), (.var 1)])] [.ite (.cmp .eq (.var 0) (.int 2)) [.asg 3 (.call f_first_joins [] [(.var 1), (.var 2)])] [.ite (.cmp .eq (.var 0) (.int 3)) [.asg 3 (.call f_first_joins [1, 0] [(.var 2), (.var 1)])] [.ite (.cmp .eq (.var 0) (.int 4)) [.asg 3 (.call f_answer_price [] [(.var 1), (.var 2)])] [.ite (.cmp .eq (.var 0) (.int 5)) [.asg 3 (.call f_answer_price [1, 0] [(.var 2), (.var 1)])] [.ite (.cmp .eq (.var 0) (.int 6)) [.asg 3 (.call f_step_joins [] [(.var 1), (.var 2)])] [.ite (.cmp .eq (.var 0) (.int 7)) [.asg 3 (.call f_step_joins [1, 0] [(.var 2), (.var 1)])] [.ite (.cmp .eq (.var 0) (.int 8)) [.asg 3 (.call f_least_first [] [(.var 1), (.var 2)])] [.ite (.cmp .eq (.var 0) (.int 9)) [.asg 3 (.call f_least_first [1, 0] [(.var 2), (.var 1)])] [.ite (.cmp .eq (.var 0) (.int 10)) [.asg 3 (.call f_over_least [] [(.var 1), (.var 2)])] [.ite (.cmp .eq (.var 0) (.int 11)) [.asg 3 (.call f_over_least [1, 0] [(.var 2), (.var 1)])] [.ite (.cmp .eq (.var 0) (.int 12)) [.asg 3 (.call f_is_least_always [] [(.var 1)])] [.asg 3 (.call f_is_least_always [0] [(.var 1)])]]]]]]]]]]]]]] [5] [some 4] [[.ite (.or (.not (.xis 4 2)) (.or (.not (.xis 4 0)) (.xis 4 3))) [.ret (.tup [(.str "class"), (.str ""), (.neg (.int 1))])] [], .ret (.tup [(.str "refused"), (.xf 4 "word"), (.xf 4 "at")])]],
  .ret (.tup [(.str "told"), (.var 3)])]⟩
def fn__law_drawn : Fn := ⟨4, 4, [
  .ite (.cmp .eq (.var 1) (.int 0)) [.ret (.call f__law_fan [] [(.var 0), (.bin .sub (.var 0) (.int 1))])] [],
  .ite (.cmp .eq (.var 1) (.int 1)) [.ret (.call f__law_fan [] [(.var 0), (.bin .mod (.bi .int [(.var 2)]) (.var 0))])] [],
  .ret (.call f__law_split [] [(.var 0), (.var 3)])]⟩
def fn__law_answers : Fn := ⟨3, 11, [
  .asg 3 (.tup [(.var 0), (.var 1)]),
  .unp [4, 5] (.call f__law_unrolled [] [(.var 0), (.var 1), (.var 2)]),
  .asg 6 (.int 0),
  .fr (.nm 7) .rng1 [(.var 2)] [.ite (.or (.not (.call f__law_same [] [(.call f_first_joins [] [(.var 3), (.var 7)]), (.var 6)])) (.not (.call f__law_same [] [(.call f_answer_price [] [(.var 3), (.var 7)]), (.ixo 4 (.var 7))]))) [.ret (.bl false)] [], .asg 6 (.bin .add (.var 6) (.ixo 4 (.var 7))), .kil [7]],
  .kil [4, 7],
  .ite (.not (.call f__law_same [] [(.call f_first_joins [] [(.var 3), (.var 2)]), (.var 6)])) [.ret (.bl false)] [],
  .asg 8 (.int 0),
  .kil [4, 7],
  .fr (.nm 9) .rng2 [(.int 1), (.bin .sub (.bin .add (.var 2) (.var 0)) (.int 1))] [.asg 10 (.call f_step_joins [] [(.var 3), (.var 9)]), .ite (.not (.call f__law_same [] [(.var 10), (.ixo 5 (.var 9))])) [.ret (.bl false)] [], .asg 8 (.bin .add (.var 8) (.var 10)), .kil [9, 10]],
  .kil [3, 5, 9, 10],
  .ret (.cmp .eq (.var 8) (.var 6))]⟩
def fn__law_least : Fn := ⟨4, 15, [
  .asg 4 (.tup [(.var 0), (.var 1)]),
  .asg 5 (.lc (.call f__law_ends [] [(.var 0), (.var 6)]) (.nm 6) .val [(.var 2)] []),
  .asg 7 (.call f__law_ends [] [(.var 0), (.var 1)]),
  .asg 8 (.ix (.call f__law_unrolled [] [(.var 0), (.call f__law_fan [] [(.var 0), (.bin .sub (.var 0) (.int 1))]), (.var 3)]) (.int 0)),
  .asg 9 (.lc (.bin .sub (.var 0) (.int 2)) (.nm 10) .rng1 [(.bi .len [(.var 5)])] []),
  .asg 11 (.int 0),
  .asg 12 (.int 0),
  .asg 13 (.int 0),
  .fr (.nm 14) .rng1 [(.var 3)] [.ite (.or (.not (.call f__law_same [] [(.call f_least_first [] [(.bin .sub (.var 0) (.int 1)), (.var 14)]), (.var 11)])) (.not (.call f__law_same [] [(.call f_over_least [] [(.var 4), (.var 14)]), (.bin .sub (.var 13) (.var 11))]))) [.ret (.bl false)] [], .ite (.not (.call f__law_same [] [(.call f_first_chords [] [(.var 4), (.var 14)]), (.call f__law_rounds [] [(.var 0), (.var 7), (.var 14)])])) [.ret (.bl false)] [], .asg 11 (.bin .add (.var 11) (.ixo 8 (.var 14))), .ite (.and (.cmp .gt (.var 14) (.int 0)) (.cmp .gt (.var 0) (.int 2))) [.asg 9 (.lc (.bin .add (.bin .add (.ixo 9 (.var 10)) (.int 1)) (.ix (.ixo 5 (.var 10)) (.bin .mod (.bi .int [(.bin .sub (.var 14) (.int 1))]) (.var 0)))) (.nm 10) .rng1 [(.bi .len [(.var 5)])] [])] [], .ite (.cmp .ne (.var 11) (.bi .min [(.var 9)])) [.ret (.bl false)] [], .asg 13 (.call f__law_cost [] [(.var 0), (.var 7), (.bin .add (.var 14) (.int 1))]), .asg 12 (.bin .sub (.bin .add (.var 12) (.var 13)) (.var 11)), .kil [14]],
  .kil [5, 7, 8, 9, 10, 11, 13, 14],
  .ite (.cmp .ne (.cmp .eq (.var 12) (.int 0)) (.or (.cmp .lt (.var 0) (.int 4)) (.cmp .eq (.var 1) (.call f__law_fan [] [(.var 0), (.bin .sub (.var 0) (.int 1))])))) [.ret (.bl false)] [],
  .ret (.call f__law_same [] [(.call f_is_least_always [] [(.var 4)]), (.cmp .eq (.var 12) (.int 0))])]⟩
def fn__law_wish : Fn := ⟨3, 5, [
  .asg 3 (.int 0),
  .fr (.nm 4) .val [(.call f__law_rows [] [(.var 0), (.var 1), (.var 2), (.int 5), (.bin .pow (.int 10) (.int 6))])] [.asg 3 (.bin .add (.bin .mul (.var 3) (.bin .pow (.int 10) (.int 6))) (.var 4)), .kil [4]],
  .kil [4],
  .ret (.var 3)]⟩
def fn__law_great : Fn := ⟨3, 13, [
  .asg 3 (.tup [(.var 0), (.var 1)]),
  .asg 4 (.call f__law_ends [] [(.var 0), (.var 1)]),
  .asg 5 (.call f__law_ends [] [(.var 0), (.call f__law_fan [] [(.var 0), (.bin .sub (.var 0) (.int 1))])]),
  .fr (.nm 6) .val [(.var 2)] [.asg 7 (.call f__law_cost [] [(.var 0), (.var 4), (.var 6)]), .asg 8 (.call f__law_cost [] [(.var 0), (.var 5), (.var 6)]), .ite (.not (.call f__law_same [] [(.call f_first_chords [] [(.var 3), (.var 6)]), (.call f__law_rounds [] [(.var 0), (.var 4), (.var 6)])])) [.ret (.bl false)] [], .ite (.not (.call f__law_same [] [(.call f_first_joins [] [(.var 3), (.var 6)]), (.var 7)])) [.ret (.bl false)] [], .ite (.not (.call f__law_same [] [(.call f_answer_price [] [(.var 3), (.var 6)]), (.bin .sub (.call f__law_cost [] [(.var 0), (.var 4), (.bin .add (.var 6) (.int 1))]) (.var 7))])) [.ret (.bl false)] [], .ite (.not (.call f__law_same [] [(.call f_over_least [] [(.var 3), (.var 6)]), (.bin .sub (.var 7) (.var 8))])) [.ret (.bl false)] [], .ite (.and (.cmp .lt (.var 0) (.int 42)) (.not (.call f__law_same [] [(.call f_least_first [] [(.bin .sub (.var 0) (.int 1)), (.var 6)]), (.var 8)]))) [.ret (.bl false)] [], .kil [6, 7, 8]],
  .kil [5, 6, 7, 8],
  .kil [5, 6, 7, 8],
  .fr (.nm 9) .val [(.lst [(.bin .add (.int 1) (.bin .mod (.bi .int [(.ixo 2 (.int 0))]) (.int 120))), (.bin .add (.int 1) (.bin .mod (.bi .int [(.bin .fdiv (.ixo 2 (.int 0)) (.int 120))]) (.var 0))), (.bin .sub (.var 0) (.int 1)), (.int 120)])] [.asg 10 (.int 0), .ite (.cmp .gt (.var 0) (.int 2)) [.asg 10 (.bin .add (.ixo 4 (.bin .mod (.bi .int [(.var 9)]) (.var 0))) (.int 1))] [], .ite (.cmp .lt (.var 9) (.bin .sub (.var 0) (.int 1))) [.asg 10 (.bi .len [(.lc (.var 11) (.tp [11, 12]) .val [(.var 1)] [(.cmp .eq (.var 12) (.var 9))])])] [], .ite (.not (.call f__law_same [] [(.call f_step_joins [] [(.var 3), (.var 9)]), (.var 10)])) [.ret (.bl false)] [], .kil [9, 10]],
  .kil [4, 9, 10, 11, 12],
  .ret (.call f__law_same [] [(.call f_is_least_always [] [(.var 3)]), (.or (.cmp .lt (.var 0) (.int 4)) (.cmp .eq (.var 1) (.call f__law_fan [] [(.var 0), (.bin .sub (.var 0) (.int 1))])))])]⟩
def fn__law_typed : Fn := ⟨0, 7, [
  .asg 0 (.tup [(.int 5), (.tup [(.tup [(.int 1), (.int 4)]), (.tup [(.int 2), (.int 4)])])]),
  .asg 1 (.tup [(.int 6), (.tup [(.tup [(.int 0), (.int 2)]), (.tup [(.int 0), (.int 4)]), (.tup [(.int 2), (.int 4)])])]),
  .asg 2 (.lst [(.tup [(.int 3), (.var 0), (.bin .pow (.int 10) (.int 30)), (.bin .mul (.int 18) (.bin .pow (.int 10) (.int 29)))]), (.tup [(.int 7), (.var 1), (.int 3), (.int 0)]), (.tup [(.int 7), (.var 1), (.int 4), (.int 2)]), (.tup [(.int 9), (.int 5), (.int 3), (.int 7)]), (.tup [(.int 11), (.var 1), (.int 3), (.int 1)]), (.tup [(.int 13), (.var 0), (.int 0), (.bl true)])]),
  .asg 2 (.bin .add (.var 2) (.lst [(.tup [(.int 5), (.var 0), (.int 0), (.int 3)]), (.tup [(.int 5), (.var 0), (.int 1), (.int 1)]), (.tup [(.int 5), (.var 0), (.int 2), (.int 2)]), (.tup [(.int 5), (.var 0), (.int 3), (.int 2)]), (.tup [(.int 5), (.var 0), (.int 4), (.int 1)]), (.tup [(.int 5), (.var 0), (.int 5), (.int 3)]), (.tup [(.int 5), (.var 0), (.int 6), (.int 1)])])),
  .asg 2 (.bin .add (.var 2) (.lst [(.tup [(.int 3), (.var 0), (.int 5), (.int 9)]), (.tup [(.int 3), (.var 0), (.int 0), (.int 0)]), (.tup [(.int 3), (.var 0), (.int 1), (.int 3)]), (.tup [(.int 11), (.var 0), (.bin .pow (.int 10) (.int 30)), (.int 0)]), (.tup [(.int 9), (.int 1), (.bin .pow (.int 10) (.int 30)), (.int 0)]), (.tup [(.int 9), (.int 2), (.bin .pow (.int 10) (.int 30)), (.bin .pow (.int 10) (.int 30))])])),
  .asg 2 (.bin .add (.var 2) (.lst [(.tup [(.int 9), (.int 40), (.int 1), (.int 39)]), (.tup [(.int 9), (.int 40), (.int 0), (.int 0)]), (.tup [(.int 1), (.var 0), (.int 0), (.int 0)]), (.tup [(.int 1), (.var 0), (.int 5), (.int 4)]), (.tup [(.int 1), (.tup [(.int 2), (.tup [])]), (.bin .pow (.int 10) (.int 30)), (.int 0)]), (.tup [(.int 5), (.tup [(.int 2), (.tup [])]), (.int 7), (.int 0)])])),
  .asg 2 (.bin .add (.var 2) (.lst [(.tup [(.int 3), (.tup [(.int 2), (.tup [])]), (.bin .pow (.int 10) (.int 30)), (.int 0)]), (.tup [(.int 7), (.tup [(.int 2), (.tup [])]), (.int 9), (.int 0)]), (.tup [(.int 11), (.tup [(.int 2), (.tup [])]), (.int 5), (.int 0)]), (.tup [(.int 13), (.tup [(.int 2), (.tup [])]), (.int 0), (.bl true)]), (.tup [(.int 13), (.tup [(.int 3), (.tup [])]), (.int 0), (.bl true)])])),
  .asg 2 (.bin .add (.var 2) (.lst [(.tup [(.int 5), (.tup [(.int 3), (.tup [])]), (.int 0), (.int 1)]), (.tup [(.int 7), (.tup [(.int 3), (.tup [])]), (.int 1), (.int 0)]), (.tup [(.int 7), (.tup [(.int 3), (.tup [])]), (.int 2), (.int 1)]), (.tup [(.int 3), (.tup [(.int 3), (.tup [])]), (.bin .pow (.int 10) (.int 30)), (.bin .pow (.int 10) (.int 30))]), (.tup [(.int 13), (.var 1), (.int 0), (.bl false)])])),
  .kil [0, 1],
  .fr (.tp [3, 4, 5, 6]) .val [(.var 2)] [.ite (.or (.not (.call f__law_same [] [(.call f__law_ask [] [(.var 3), (.var 4), (.var 5)]), (.tup [(.str "told"), (.var 6)])])) (.not (.call f__law_same [] [(.call f__law_ask [] [(.bin .sub (.var 3) (.int 1)), (.var 4), (.var 5)]), (.tup [(.str "told"), (.var 6)])]))) [.ret (.bl false)] [], .kil [3, 4, 5, 6]],
  .kil [3, 4, 5, 6],
  .ret (.bl true)]⟩
def fn__law_refusals : Fn := ⟨1, 7, [
  .asg 1 (.bin .sub (.bin .mod (.bi .int [(.var 0)]) (.int 30)) (.int 30)),
  .asg 2 (.tup [(.int 5), (.tup [(.tup [(.int 1), (.int 4)]), (.tup [(.int 2), (.int 4)])])]),
  .fr (.nm 3) .val [(.lst [.non, (.int 6), (.tup [(.int 6), (.tup [])]), (.tup [(.int 5), (.tup [(.tup [(.int 0), (.int 2)]), (.tup [(.int 1), (.int 3)])])]), (.lst [(.int 4), (.tup [(.tup [(.int 0), (.int 2)])])]), (.tup [(.int 4), (.lst [(.tup [(.int 0), (.int 2)])])]), (.tup [(.bl true), (.tup [])])])] [.kil [4], .fr (.nm 4) .val [(.lst [(.int 0), (.int 1), (.int 2), (.int 3), (.int 4), (.int 5), (.int 6), (.int 7), (.int 10), (.int 11), (.int 12), (.int 13)])] [.ite (.cmp .ne (.call f__law_ask [] [(.var 4), (.var 3), .non]) (.tup [(.str "refused"), (.str "cutting"), (.neg (.int 1))])) [.ret (.bl false)] [], .kil [4]], .kil [3, 4], .kil [3, 4]],
  .kil [3, 4],
  .kil [3, 4],
  .fr (.nm 3) .val [(.lst [.non, (.bl true), (.int 0), (.var 1), (.str "4"), (.tup [(.int 4)])])] [.ite (.or (.cmp .ne (.call f__law_ask [] [(.int 8), (.var 3), .non]) (.tup [(.str "refused"), (.str "width"), (.neg (.int 1))])) (.cmp .ne (.call f__law_ask [] [(.int 9), (.var 3), (.var 1)]) (.tup [(.str "refused"), (.str "width"), (.neg (.int 1))]))) [.ret (.bl false)] [], .kil [3]],
  .kil [3],
  .asg 5 (.lst [(.str "many"), (.str "many"), (.str "many"), (.str "many"), (.str "answer"), (.str "answer"), (.str "step"), (.str "step"), (.str "many"), (.str "many"), (.str "many"), (.str "many")]),
  .kil [3, 4],
  .fr (.nm 4) .rng1 [(.int 12)] [.asg 6 (.var 2), .ite (.and (.cmp .eq (.ixo 5 (.var 4)) (.str "many")) (.and (.cmp .gt (.var 4) (.int 7)) (.cmp .lt (.var 4) (.int 10)))) [.asg 6 (.int 4)] [], .kil [3], .fr (.nm 3) .val [(.lst [.non, (.bl false), (.var 1), (.str "3"), (.tup [(.int 3)]), (.lst [(.int 0)])])] [.ite (.cmp .ne (.call f__law_ask [] [(.var 4), (.var 6), (.var 3)]) (.tup [(.str "refused"), (.ixo 5 (.var 4)), (.neg (.int 1))])) [.ret (.bl false)] [], .kil [3]], .kil [3], .ite (.and (.cmp .ne (.ixo 5 (.var 4)) (.str "step")) (.cmp .ne (.ix (.call f__law_ask [] [(.var 4), (.var 6), (.int 0)]) (.int 0)) (.str "told"))) [.ret (.bl false)] [], .kil [3, 4, 6]],
  .kil [1, 3, 4, 5, 6],
  .ret (.and (.cmp .eq (.call f__law_ask [] [(.int 6), (.var 2), (.int 0)]) (.tup [(.str "refused"), (.str "step"), (.neg (.int 1))])) (.cmp .eq (.call f__law_ask [] [(.int 7), (.var 2), (.int 0)]) (.tup [(.str "refused"), (.str "step"), (.neg (.int 1))])))]⟩
def fn_law : Fn := ⟨1, 11, [
  .asg 1 (.call f__law_base [] [(.var 0)]),
  .asg 2 (.call f__law_rows [] [(.var 0), (.var 1), (.int 0), (.int 8), (.int 5040)]),
  .asg 3 (.ix (.lst [(.int 2), (.int 3), (.int 4), (.int 5), (.int 6), (.int 5), (.int 4), (.int 6), (.int 7), (.int 8), (.int 6), (.int 7)]) (.bin .mod (.bi .int [(.ixo 2 (.int 0))]) (.int 12))),
  .asg 4 (.call f__law_drawn [] [(.var 3), (.bin .mod (.bi .int [(.ixo 2 (.int 1))]) (.int 5)), (.ixo 2 (.int 2)), (.call f__law_rows [] [(.var 0), (.var 1), (.int 1), (.var 3), (.int 60)])]),
  .asg 5 (.call f__law_all [] [(.var 3)]),
  .asg 6 (.bin .add (.bin .add (.var 3) (.int 3)) (.bin .mod (.bi .int [(.ixo 2 (.int 3))]) (.var 3))),
  .ite (.or (.not (.call f__law_answers [] [(.var 3), (.var 4), (.var 6)])) (.not (.call f__law_least [] [(.var 3), (.var 4), (.var 5), (.var 6)]))) [.ret (.bl false)] [],
  .asg 7 (.bin .add (.int 2) (.bin .mod (.bi .int [(.ixo 2 (.int 4))]) (.int 59))),
  .asg 8 (.call f__law_drawn [] [(.var 7), (.bin .mod (.bi .int [(.ixo 2 (.int 5))]) (.int 5)), (.ixo 2 (.int 6)), (.call f__law_rows [] [(.var 0), (.var 1), (.int 2), (.var 7), (.int 60)])]),
  .asg 9 (.call f__law_wish [] [(.var 0), (.var 1), (.int 3)]),
  .asg 10 (.lst [(.var 9), (.bin .sub (.var 9) (.bin .mod (.bi .int [(.var 9)]) (.var 7))), (.bin .mod (.bi .int [(.var 9)]) (.bin .mul (.int 3) (.var 7))), (.bin .add (.var 7) (.int 1)), (.int 0)]),
  .ite (.cmp .eq (.bin .mod (.bi .int [(.ixo 2 (.int 7))]) (.int 4)) (.int 1)) [.app 10 (.bin .pow (.int 10) (.int 30))] [],
  .ret (.and (.call f__law_great [] [(.var 7), (.var 8), (.var 10)]) (.and (.call f__law_typed [] []) (.call f__law_refusals [] [(.var 1)])))]⟩
def Tab : List Fn := [fn_is_integer, fn_is_number, fn_e_is_chord, fn_e_chord_fault, fn_lets_cutting, fn_is_cutting, fn_e_need_cutting, fn_e_need_corners, fn_e_need_number, fn_e_cutting_of, fn_e_neighbour_table, fn_e_price_list, fn_e_need_corner_below, fn_fan, fn_first_chords, fn_first_joins, fn_answer_price, fn_step_joins, fn_least_first, fn_over_least, fn_is_least_always, fn__law_base, fn__law_rows, fn__law_same, fn__law_all, fn__law_split, fn__law_fan, fn__law_ends, fn__law_unrolled, fn__law_rounds, fn__law_cost, fn__law_ask, fn__law_drawn, fn__law_answers, fn__law_least, fn__law_wish, fn__law_great, fn__law_typed, fn__law_refusals, fn_law]
def T (f : Nat) : Option Fn := Tab[f]?
end K30

set_option maxHeartbeats 1000000
/-! Plain side, part a: stepping through core terms. -/
namespace Uq
open PySem
section
variable {T : Nat → Option Fn} {sub : Nat → Nat → Bool} {flds : Nat → List Str}
/-- a call of the f-th function -/
theorem wC_of {n f : Nat} {fn : Fn} {vs : List D} {Q : QD} {E : Ex} (hT : T f = some fn) (hl : vs.length = fn.np)
    (h : wSs ⟨wC T sub flds n, sub, flds⟩ fn.body (Uq.start fn vs) ⟨fun _ => Q .none, Q, fun _ => False, fun _ => False, fun c fs _ => E c fs⟩) : wC T sub flds (n + 1) f vs Q E := by
  unfold wC
  rw [hT]
  exact ⟨hl, h⟩
end
/-! what simp may look into, ahead of a step -/
section
variable {X : Cl} {ρ ρ' : Env} {Q : QD} {E : Ex} {k : K}
end
/-! values -/
@[simp] theorem truR_none {Q} : truR .none Q = Q false := id rfl
@[simp] theorem truR_bool {b Q} : truR (.bool b) Q = Q b := id rfl
@[simp] theorem truR_int {i Q} : truR (.int i) Q = Q (i != 0) := id rfl
@[simp] theorem truR_list {ds Q} : truR (.list ds) Q = Q (!ds.isEmpty) := id rfl
@[simp] theorem truR_tuple {ds Q} : truR (.tuple ds) Q = Q (!ds.isEmpty) := id rfl
@[simp] theorem truR_str {x Q} : truR (.str x) Q = (x.length ≤ sizeLine ∧ Q (x.length != 0)) := id rfl
@[simp] theorem binR_addI {i j Q} : binR .add (.int i) (.int j) Q = Q (.int (i + j)) := id rfl
@[simp] theorem binR_addL {i j Q} : binR .add (.list i) (.list j) Q = (i.length + j.length ≤ sizeLine ∧ Q (.list (i ++ j))) := id rfl
@[simp] theorem binR_addT {i j Q} : binR .add (.tuple i) (.tuple j) Q = (i.length + j.length ≤ sizeLine ∧ Q (.tuple (i ++ j))) := id rfl
@[simp] theorem binR_sub {i j Q} : binR .sub (.int i) (.int j) Q = Q (.int (i - j)) := id rfl
@[simp] theorem binR_mul {i j Q} : binR .mul (.int i) (.int j) Q = (MulOk i j ∧ Q (.int (i * j))) := id rfl
@[simp] theorem binR_mulL {a j Q} : binR .mul (.list a) (.int j) Q = ((-(2 ^ 63) ≤ j ∧ j < 2 ^ 63 ∧ a.length * j.toNat ≤ sizeLine) ∧ Q (.list (List.replicate j.toNat a).flatten)) := id rfl
@[simp] theorem binR_fdiv {i j Q} : binR .fdiv (.int i) (.int j) Q = ((j ≠ 0 ∧ j.natAbs.log2 < 9000) ∧ Q (.int (i.fdiv j))) := id rfl
@[simp] theorem binR_mod {i j Q} : binR .mod (.int i) (.int j) Q = (j ≠ 0 ∧ Q (.int (i.fmod j))) := id rfl
@[simp] theorem binR_pow {i j Q} : binR .pow (.int i) (.int j) Q = ((0 ≤ j ∧ j ≤ 1000000 ∧ i.natAbs < 2 ^ 64) ∧ Q (.int (i ^ j.toNat))) := id rfl
@[simp] theorem cmpR_ltI {i j Q} : cmpR .lt (.int i) (.int j) Q = Q (.bool (decide (i < j))) := id rfl
@[simp] theorem cmpR_leI {i j Q} : cmpR .le (.int i) (.int j) Q = Q (.bool (decide (i ≤ j))) := id rfl
@[simp] theorem cmpR_gtI {i j Q} : cmpR .gt (.int i) (.int j) Q = Q (.bool (decide (j < i))) := id rfl
@[simp] theorem cmpR_geI {i j Q} : cmpR .ge (.int i) (.int j) Q = Q (.bool (decide (j ≤ i))) := id rfl
@[simp] theorem cmpR_eqI {i j Q} : cmpR .eq (.int i) (.int j) Q = Q (.bool (decide (i = j))) := id rfl
@[simp] theorem cmpR_neI {i j Q} : cmpR .ne (.int i) (.int j) Q = Q (.bool (!decide (i = j))) := id rfl
@[simp] theorem cmpR_eqS {i j Q} : cmpR .eq (.str i) (.str j) Q = Q (.bool (decide (i = j))) := id rfl
@[simp] theorem cmpR_neS {i j Q} : cmpR .ne (.str i) (.str j) Q = Q (.bool (!decide (i = j))) := id rfl
@[simp] theorem isTy_int {t i} : isTy t (.int i) = decide (t = .int) := by cases t <;> rfl
@[simp] theorem isTy_bool {t i} : isTy t (.bool i) = decide (t = .int ∨ t = .bool) := by cases t <;> rfl
@[simp] theorem isTy_str {t i} : isTy t (.str i) = decide (t = .str) := by cases t <;> rfl
@[simp] theorem isTy_tuple {t i} : isTy t (.tuple i) = decide (t = .tuple) := by cases t <;> rfl
@[simp] theorem isTy_list {t i} : isTy t (.list i) = decide (t = .list) := by cases t <;> rfl
@[simp] theorem isTy_none {t} : isTy t .none = false := by cases t <;> rfl
@[simp] theorem isNon_none : isNon .none = true := id rfl
@[simp] theorem isNon_int {i} : isNon (.int i) = false := id rfl
@[simp] theorem isNon_bool {i} : isNon (.bool i) = false := id rfl
@[simp] theorem isNon_str {i} : isNon (.str i) = false := id rfl
@[simp] theorem isNon_tuple {i} : isNon (.tuple i) = false := id rfl
@[simp] theorem isNon_list {i} : isNon (.list i) = false := id rfl
@[simp] theorem opq_int {i} : opq (.int i) = false := id rfl
@[simp] theorem opq_bool {i} : opq (.bool i) = false := id rfl
@[simp] theorem opq_str {i} : opq (.str i) = false := id rfl
@[simp] theorem opq_tuple {i} : opq (.tuple i) = false := id rfl
@[simp] theorem opq_list {i} : opq (.list i) = false := id rfl
@[simp] theorem opq_none : opq .none = false := id rfl
@[simp] theorem opq_dict {i} : opq (.dict i) = true := id rfl
@[simp] theorem noL_int {i} : noL (.int i) = true := id rfl
@[simp] theorem noL_bool {i} : noL (.bool i) = true := id rfl
@[simp] theorem noL_str {i} : noL (.str i) = true := id rfl
@[simp] theorem noL_none : noL .none = true := id rfl
@[simp] theorem noL_list {i} : noL (.list i) = false := id rfl
@[simp] theorem noL_dict {i} : noL (.dict i) = false := id rfl
@[simp] theorem noL_tuple {i} : noL (.tuple i) = noLs i := id rfl
@[simp] theorem noLs_nil : noLs [] = true := id rfl
@[simp] theorem noLs_cons {d ds} : noLs (d :: ds) = (noL d && noLs ds) := id rfl
@[simp] theorem biR_lenL {ds Q} : biR .len [.list ds] Q = Q (.int ds.length) := id rfl
@[simp] theorem biR_lenT {ds Q} : biR .len [.tuple ds] Q = Q (.int ds.length) := id rfl
@[simp] theorem biR_lenD {ds Q} : biR .len [.dict ds] Q = Q (.int ds.length) := id rfl
@[simp] theorem biR_intI {i Q} : biR .int [.int i] Q = Q (.int i) := id rfl
@[simp] theorem biR_intB {b Q} : biR .int [.bool b] Q = Q (.int (if b then 1 else 0)) := id rfl
@[simp] theorem biR_max {i j Q} : biR .max [.int i, .int j] Q = Q (.int (if j > i then j else i)) := id rfl
@[simp] theorem biR_min {i j Q} : biR .min [.int i, .int j] Q = Q (.int (if j < i then j else i)) := id rfl
@[simp] theorem biR_tupleL {ds Q} : biR .tuple [.list ds] Q = Q (.tuple ds) := id rfl
@[simp] theorem biR_tupleT {ds Q} : biR .tuple [.tuple ds] Q = Q (.tuple ds) := id rfl
@[simp] theorem biR_listL {ds Q} : biR .list [.list ds] Q = Q (.list ds) := id rfl
@[simp] theorem biR_listT {ds Q} : biR .list [.tuple ds] Q = Q (.list ds) := id rfl
@[simp] theorem biR_lrng1 {j Q} : biR .lrng1 [.int j] Q = ((-(2 ^ 62) ≤ j ∧ j < 2 ^ 62 ∧ j.toNat ≤ sizeLine) ∧ Q (.list (upto 0 j.toNat))) := id rfl
@[simp] theorem biR_lrng2 {i j Q} : biR .lrng2 [.int i, .int j] Q = ((-(2 ^ 62) ≤ i ∧ i < 2 ^ 62 ∧ -(2 ^ 62) ≤ j ∧ j < 2 ^ 62 ∧ (j - i).toNat ≤ 2 ^ 24) ∧ Q (.list (upto i (j - i).toNat))) := id rfl
@[simp] theorem biR_abs {i Q} : biR .abs [.int i] Q = Q (.int (if i < 0 then -i else i)) := id rfl
@[simp] theorem biR_bits {i Q} : biR .bits [.int i] Q = Q (.int (Builtin.Int.intBits i)) := id rfl
@[simp] theorem biR_boolB {b Q} : biR .bool [.bool b] Q = Q (.bool b) := id rfl
@[simp] theorem itR_l {ds Q} : itR .val [.list ds] Q = Q ds := id rfl
@[simp] theorem itR_t {ds Q} : itR .val [.tuple ds] Q = Q ds := id rfl
@[simp] theorem itR_d {ds Q} : itR .val [.dict ds] Q = Q (ds.map (·.2)) := id rfl
@[simp] theorem itR_r1 {j Q} : itR .rng1 [.int j] Q = ((-(2 ^ 62) ≤ j ∧ j < 2 ^ 62) ∧ Q (upto 0 j.toNat)) := id rfl
@[simp] theorem itR_r2 {i j Q} : itR .rng2 [.int i, .int j] Q = ((-(2 ^ 62) ≤ i ∧ i < 2 ^ 62 ∧ -(2 ^ 62) ≤ j ∧ j < 2 ^ 62) ∧ Q (upto i (j - i).toNat)) := id rfl
@[simp] theorem itR_el {ds Q} : itR .enum [.list ds] Q = Q (enumF 0 ds) := id rfl
@[simp] theorem itR_et {ds Q} : itR .enum [.tuple ds] Q = Q (enumF 0 ds) := id rfl
def atR (o : Option D) (Q : QD) : Prop := match o with
  | some d => Q d
  | none => False
@[simp] theorem atR_some {d Q} : atR (some d) Q = Q d := id rfl
theorem atR_ex {o : Option D} {Q : QD} : (∃ d, o = some d ∧ Q d) = atR o Q := by
  cases o with
  | none => exact propext ⟨fun ⟨_, h, _⟩ => (nomatch h), fun h => h.elim⟩
  | some d => exact propext ⟨fun ⟨e, h, q⟩ => by cases h; exact q, fun h => ⟨d, rfl, h⟩⟩
@[simp] theorem ixR_t {ds j Q} : ixR (.tuple ds) (.int j) Q = atR (L2.atI ds j) Q := atR_ex
@[simp] theorem ixR_l {ds j Q} : ixR (.list ds) (.int j) Q = atR (L2.atI ds j) Q := atR_ex
@[simp] theorem ixR_d {ds j Q} : ixR (.dict ds) (.int j) Q = atR (L2.atI (ds.map (·.2)) j) Q := atR_ex
@[simp] theorem slR_t {ds lo hi Q} : slR (.tuple ds) lo hi Q = Q (.tuple (cut ds lo hi)) := id rfl
@[simp] theorem slR_l {ds lo hi Q} : slR (.list ds) lo hi Q = Q (.list (cut ds lo hi)) := id rfl
@[simp] theorem revR_l {ds Q} : revR (.list ds) Q = Q (.list ds.reverse) := id rfl
@[simp] theorem revR_t {ds Q} : revR (.tuple ds) Q = Q (.tuple ds.reverse) := id rfl
@[simp] theorem pmL_nil {vs} : pmL [] vs = vs := id rfl
@[simp] theorem at0 {d : D} {ds : List D} : L2.atI (d :: ds) 0 = some d := by simp [L2.atI, L2.ixN]
theorem at00 {d e : D} {ds : List D} : (L2.atI (d :: ds) 0 = some e) = (d = e) := by rw [at0]; simp
@[simp] theorem at1 {d d' : D} {ds : List D} : L2.atI (d :: d' :: ds) 1 = some d' := by
  unfold L2.atI L2.ixN
  rw [if_pos (by decide), if_pos (by simp only [List.length_cons]; omega)]
  rfl
theorem at11 {d d' e : D} {ds : List D} : (L2.atI (d :: d' :: ds) 1 = some e) = (d' = e) := by rw [at1]; simp
/-! environments -/
@[simp] theorem start_def {a b : Nat} {bd : List S} {vs : List D} : Uq.start ⟨a, b, bd⟩ vs = vs.map Sl.va ++ List.replicate (b - a) Sl.no := id rfl
@[simp] theorem frz_va {d} : Sl.frz (.va d) = .va d := id rfl
@[simp] theorem frz_nl {dss} : Sl.frz (.nl dss) = .va (.list (dss.map .list)) := id rfl
@[simp] theorem frz_no : Sl.frz .no = .no := id rfl
@[simp] theorem frz_ol {ds} : Sl.frz (.ol ds) = .va (.list ds) := id rfl
@[simp] theorem kil_nil {ρ} : kil [] ρ = ρ := id rfl
@[simp] theorem kil_cons {i is ρ} : kil (i :: is) ρ = kil is (ρ.set i .no) := id rfl
@[simp] theorem frzL_nil {ρ} : frzL [] ρ = ρ := id rfl
@[simp] theorem frzL_cons {i is ρ} : frzL (i :: is) ρ = frzL is (ρ.modify i Sl.frz) := id rfl
@[simp] theorem setL_nil {ρ} : setL [] [] ρ = some ρ := id rfl
@[simp] theorem setL_cons {i is d ds ρ} : setL (i :: is) (d :: ds) ρ = setL is ds (ρ.set i (.va d)) := id rfl
@[simp] theorem tgR_nm {i d ρ Q} : tgR (.nm i) d ρ Q = Q (ρ.set i (.va d)) := id rfl
@[simp] theorem tgR_tp2 {i j a b ρ Q} : tgR (.tp [i, j]) (.tuple [a, b]) ρ Q = Q ((ρ.set i (.va a)).set j (.va b)) := id rfl
@[simp] theorem shr_va {i d ρ} : shr (.var i) d ρ = if noL d then ρ else frzL [i] ρ := id rfl
@[simp] theorem fresh_var {i} : Uq.fresh (.var i) = false := id rfl
@[simp] theorem fresh_non : Uq.fresh (.non) = false := id rfl
@[simp] theorem fresh_bl {b} : Uq.fresh (.bl b) = false := id rfl
@[simp] theorem fresh_int {k} : Uq.fresh (.int k) = false := id rfl
@[simp] theorem fresh_str {x} : Uq.fresh (.str x) = false := id rfl
@[simp] theorem fresh_neg {a} : Uq.fresh (.neg a) = false := id rfl
@[simp] theorem fresh_not {a} : Uq.fresh (.not a) = false := id rfl
@[simp] theorem fresh_and {a b} : Uq.fresh (.and a b) = false := id rfl
@[simp] theorem fresh_or {a b} : Uq.fresh (.or a b) = false := id rfl
@[simp] theorem fresh_cmp {o a b} : Uq.fresh (.cmp o a b) = false := id rfl
@[simp] theorem fresh_isN {n a} : Uq.fresh (.isN n a) = false := id rfl
@[simp] theorem fresh_isB {n b a} : Uq.fresh (.isB n b a) = false := id rfl
@[simp] theorem fresh_mem {n a b} : Uq.fresh (.mem n a b) = false := id rfl
@[simp] theorem fresh_tup {es} : Uq.fresh (.tup es) = false := id rfl
@[simp] theorem fresh_ix {a b} : Uq.fresh (.ix a b) = false := id rfl
@[simp] theorem fresh_call {f pm es} : Uq.fresh (.call f pm es) = false := id rfl
@[simp] theorem fresh_isi {a ts} : Uq.fresh (.isi a ts) = false := id rfl
@[simp] theorem fresh_lst {es} : Uq.fresh (.lst es) = true := id rfl
@[simp] theorem fresh_lc {e t k es cd} : Uq.fresh (.lc e t k es cd) = true := id rfl
@[simp] theorem fresh_sl {a b c} : Uq.fresh (.sl a b c) = true := id rfl
@[simp] theorem fresh_rev {a} : Uq.fresh (.rev a) = true := id rfl
@[simp] theorem fresh_bi_len {es} : Uq.fresh (.bi .len es) = false := id rfl
@[simp] theorem fresh_bi_abs {es} : Uq.fresh (.bi .abs es) = false := id rfl
@[simp] theorem fresh_bi_int {es} : Uq.fresh (.bi .int es) = false := id rfl
@[simp] theorem fresh_bi_max {es} : Uq.fresh (.bi .max es) = false := id rfl
@[simp] theorem fresh_bi_min {es} : Uq.fresh (.bi .min es) = false := id rfl
@[simp] theorem fresh_bi_sum {es} : Uq.fresh (.bi .sum es) = false := id rfl
@[simp] theorem fresh_bi_tuple {es} : Uq.fresh (.bi .tuple es) = false := id rfl
@[simp] theorem fresh_bi_list {es} : Uq.fresh (.bi .list es) = true := id rfl
@[simp] theorem fresh_bi_sorted {es} : Uq.fresh (.bi .sorted es) = true := id rfl
@[simp] theorem fresh_bi_sset {es} : Uq.fresh (.bi .sset es) = true := id rfl
@[simp] theorem fresh_bi_lrng2 {es} : Uq.fresh (.bi .lrng2 es) = true := id rfl
@[simp] theorem fresh_bi_any {es} : Uq.fresh (.bi .any es) = false := id rfl
@[simp] theorem fresh_bi_all {es} : Uq.fresh (.bi .all es) = false := id rfl
@[simp] theorem fresh_bin_add {a b} : Uq.fresh (.bin .add a b) = true := id rfl
@[simp] theorem fresh_bin_sub {a b} : Uq.fresh (.bin .sub a b) = false := id rfl
@[simp] theorem fresh_bin_mul {a b} : Uq.fresh (.bin .mul a b) = true := id rfl
@[simp] theorem fresh_bin_fdiv {a b} : Uq.fresh (.bin .fdiv a b) = false := id rfl
@[simp] theorem fresh_bin_mod {a b} : Uq.fresh (.bin .mod a b) = false := id rfl
@[simp] theorem fresh_bin_pow {a b} : Uq.fresh (.bin .pow a b) = false := id rfl
theorem asgn_f {e : C} {i : Nat} {d : D} {ρ : Env} (h : Uq.fresh e = false) : asgn e i d ρ = (shr e d ρ).set i (.va d) := by unfold asgn; rw [h]
@[simp] theorem shr_n {e : C} {d : D} {ρ : Env} (h : noL d = true) : shr e d ρ = ρ := by
  unfold shr
  split
  · rename_i ds _; cases h
  · rw [if_pos h]
@[simp] theorem asgn_l {e : C} {i : Nat} {ds : List D} {ρ : Env} (h : Uq.fresh e = true) (hn : noLs ds = true) : asgn e i (.list ds) ρ = ρ.set i (.ol ds) := by
  unfold asgn shr
  rw [h]
  simp only [hn, if_true]
@[simp] theorem asgn_n {e : C} {i : Nat} {d : D} {ρ : Env} (h : noL d = true) : asgn e i d ρ = ρ.set i (.va d) := by
  unfold asgn
  split
  · cases h
  · rw [shr_n h]
/-! the steps -/
section
variable {X : Cl} {ρ : Env} {Q : QD} {E : Ex} {k : K}
def varR (o : Option Sl) (Q : QD) : Prop := match o with
  | some (.va d) => Q d
  | some (.ol ds) => Q (.list ds)
  | some (.nl dss) => Q (.list (dss.map .list))
  | _ => False
@[simp] theorem varR_va {d} : varR (some (.va d)) Q = Q d := id rfl
@[simp] theorem varR_nl {dss} : varR (some (.nl dss)) Q = Q (.list (dss.map .list)) := id rfl
@[simp] theorem varR_ol {d} : varR (some (.ol d)) Q = Q (.list d) := id rfl
def lcG (X : Cl) (e : C) (t : Tg) (cd : List C) (ρ : Env) (ds acc : List D) (Q : QD) : Prop := lcW (fun ρ' q => wTs X cd ρ' q) (fun ρ' q => wE X e ρ' q fun _ _ => False) t ρ ds acc Q
theorem lcG_nil {e t cd acc} : lcG X e t cd ρ [] acc Q = Q (.list acc) := rfl
theorem lcG_cons {e t cd d ds acc} : lcG X e t cd ρ (d :: ds) acc Q = tgR t d ρ fun ρ' => wTs X cd ρ' fun b => if b = true then wE X e ρ' (fun v => acc.length < sizeLine ∧ lcG X e t cd ρ ds (acc ++ [v]) Q) (fun _ _ => False) else lcG X e t cd ρ ds acc Q := rfl
@[simp] theorem wE_var {i} : wE X (.var i) ρ Q E = varR ρ[i]? Q := by
  unfold wE varR
  cases h : ρ[i]? with
  | none => rfl
  | some s => cases s <;> rfl
@[simp] theorem wE_non : wE X .non ρ Q E = Q .none := id rfl
@[simp] theorem wE_bl {b} : wE X (.bl b) ρ Q E = Q (.bool b) := id rfl
@[simp] theorem wE_int {b} : wE X (.int b) ρ Q E = Q (.int b) := id rfl
@[simp] theorem wE_str {b} : wE X (.str b) ρ Q E = Q (.str b) := id rfl
@[simp] theorem wE_bin {o a b} : wE X (.bin o a b) ρ Q E = wE X a ρ (fun x => wE X b ρ (fun y => binR o x y Q) E) E := id rfl
def negR (x : D) (Q : QD) : Prop := match x with
  | .int i => Q (.int (-i))
  | _ => False
@[simp] theorem negR_int {i} : negR (.int i) Q = Q (.int (-i)) := id rfl
@[simp] theorem wE_neg {a} : wE X (.neg a) ρ Q E = wE X a ρ (fun x => negR x Q) E := id rfl
@[simp] theorem wE_not {a} : wE X (.not a) ρ Q E = wE X a ρ (fun x => truR x fun t => Q (.bool (!t))) E := id rfl
@[simp] theorem wE_and {a b} : wE X (.and a b) ρ Q E = wE X a ρ (fun x => truR x fun t => if t = true then wE X b ρ Q E else Q x) E := id rfl
@[simp] theorem wE_or {a b} : wE X (.or a b) ρ Q E = wE X a ρ (fun x => truR x fun t => if t = true then Q x else wE X b ρ Q E) E := id rfl
@[simp] theorem wE_cmp {o a b} : wE X (.cmp o a b) ρ Q E = wE X a ρ (fun x => wE X b ρ (fun y => cmpR o x y Q) E) E := id rfl
@[simp] theorem wE_isN {n a} : wE X (.isN n a) ρ Q E = wE X a ρ (fun x => Q (.bool (isNon x != n))) E := id rfl
@[simp] theorem wE_isB {n b a} : wE X (.isB n b a) ρ Q E = wE X a ρ (fun x => Q (.bool (isBv b x != n))) E := id rfl
@[simp] theorem wE_mem {n a b} : wE X (.mem n a b) ρ Q E = wE X a ρ (fun x => wE X b ρ (fun y => memR x y fun k => Q (.bool (k != n))) E) E := id rfl
@[simp] theorem wE_ite {c a b} : wE X (.ite c a b) ρ Q E = wE X c ρ (fun x => truR x fun t => if t = true then wE X a ρ Q E else wE X b ρ Q E) E := id rfl
@[simp] theorem wE_tup {es} : wE X (.tup es) ρ Q E = wEs X es ρ (fun vs => Q (.tuple vs)) E := id rfl
@[simp] theorem wE_lst {es} : wE X (.lst es) ρ Q E = wEs X es ρ (fun vs => Q (.list vs)) E := id rfl
@[simp] theorem wE_ix {a b} : wE X (.ix a b) ρ Q E = wE X a ρ (fun x => wE X b ρ (fun y => ixR x y Q) E) E := id rfl
def optR (x : D) (k : Option Int → Prop) : Prop := match x with
  | .int i => k (some i)
  | _ => False
@[simp] theorem optR_int {i k} : optR (.int i) k = k (some i) := id rfl
theorem wE_sl {a b c} : wE X (.sl a b c) ρ Q E = wE X a ρ (fun x => wOpt (isNonC b) (fun k => wE X b ρ k E) fun lo => wOpt (isNonC c) (fun k => wE X c ρ k E) fun hi => slR x lo hi Q) E := rfl
@[simp] theorem wE_sl1 {a b} (h : isNonC b = false) : wE X (.sl a b .non) ρ Q E = wE X a ρ (fun x => wE X b ρ (fun y => optR y fun lo => slR x lo none Q) E) E := by
  rw [wE_sl, h]; rfl
@[simp] theorem wE_sl2 {a c} (h : isNonC c = false) : wE X (.sl a .non c) ρ Q E = wE X a ρ (fun x => wE X c ρ (fun y => optR y fun hi => slR x none hi Q) E) E := by
  rw [wE_sl, h]; rfl
@[simp] theorem wE_sl3 {a b c} (h : isNonC b = false) (h2 : isNonC c = false) : wE X (.sl a b c) ρ Q E = wE X a ρ (fun x => wE X b ρ (fun y => optR y fun lo => wE X c ρ (fun z => optR z fun hi => slR x lo hi Q) E) E) E := by
  rw [wE_sl, h, h2]; rfl
@[simp] theorem isNonC_var {i} : isNonC (.var i) = false := id rfl
@[simp] theorem isNonC_int {i} : isNonC (.int i) = false := id rfl
@[simp] theorem isNonC_bin {o a b} : isNonC (.bin o a b) = false := id rfl
@[simp] theorem isNonC_neg {a} : isNonC (.neg a) = false := id rfl
@[simp] theorem isNonC_ix {a b} : isNonC (.ix a b) = false := id rfl
@[simp] theorem wE_rev {a} : wE X (.rev a) ρ Q E = wE X a ρ (fun x => revR x Q) E := id rfl
@[simp] theorem wE_call {f pm es} : wE X (.call f pm es) ρ Q E = wEs X es ρ (fun vs => X.call f (pmL pm vs) Q E) E := id rfl
@[simp] theorem wE_bi {f es} : wE X (.bi f es) ρ Q E = wEs X es ρ (fun vs => biR f vs Q) E := id rfl
@[simp] theorem wE_isi {a ts} : wE X (.isi a ts) ρ Q E = wE X a ρ (fun x => opq x = false ∧ Q (.bool (ts.any fun t => isTy t x))) E := id rfl
@[simp] theorem wE_lc {e t ik es cd} : wE X (.lc e t ik es cd) ρ Q E = wEs X es ρ (fun vs => itR ik vs fun ds => lcG X e t cd (kil (tgI t) (frzIt ik es ρ)) ds [] Q) E := id rfl
@[simp] theorem wEs_nil {Q : List D → Prop} : wEs X [] ρ Q E = Q [] := id rfl
@[simp] theorem wEs_cons {c cs} {Q : List D → Prop} : wEs X (c :: cs) ρ Q E = wE X c ρ (fun v => wEs X cs ρ (fun vs => Q (v :: vs)) E) E := id rfl
@[simp] theorem wTs_nil {Q : Bool → Prop} : wTs X [] ρ Q = Q true := id rfl
@[simp] theorem wTs_cons {c cs} {Q : Bool → Prop} : wTs X (c :: cs) ρ Q = wE X c ρ (fun d => truR d fun t => if t = true then wTs X cs ρ Q else Q false) fun _ _ => False := id rfl
@[simp] theorem wSs_nil : wSs X [] ρ k = k.nx ρ := id rfl
@[simp] theorem wSs_cons {s ss} : wSs X (s :: ss) ρ k = wS X s ρ ⟨fun ρ' => wSs X ss ρ' k, k.rt, k.bk, k.ct, k.ex⟩ := id rfl
@[simp] theorem wS_asg {i e} : wS X (.asg i e) ρ k = wE X e ρ (fun d => k.nx (asgn e i d ρ)) (fun c fs => k.ex c fs ρ) := id rfl
def unpR (is : List Nat) (d : D) (ρ : Env) (Q : Env → Prop) : Prop := match d with
  | .tuple ds => match setL is ds ρ with
    | some ρ' => Q ρ'
    | none => False
  | _ => False
@[simp] theorem unpR_2 {i j a b} {Q : Env → Prop} : unpR [i, j] (.tuple [a, b]) ρ Q = Q ((ρ.set i (.va a)).set j (.va b)) := id rfl
@[simp] theorem wS_unp {is e} : wS X (.unp is e) ρ k = wE X e ρ (fun d => unpR is d (shr e d ρ) k.nx) (fun c fs => k.ex c fs ρ) := by
  show wE X e ρ _ _ = _
  congr 1
def appR (o : Option Sl) (d : D) (Q : Sl → Prop) : Prop := match o with
  | some (.ol ds) => ds.length < sizeLine ∧ Q (.ol (ds ++ [d]))
  | _ => False
@[simp] theorem appR_ol {ds d} {Q : Sl → Prop} : appR (some (.ol ds)) d Q = (ds.length < sizeLine ∧ Q (.ol (ds ++ [d]))) := id rfl
@[simp] theorem wS_app {i e} : wS X (.app i e) ρ k = ((∃ ds, ρ[i]? = some (.ol ds)) ∧ wE X e ρ (fun d => appR (shr e d ρ)[i]? d fun s => k.nx ((shr e d ρ).set i s)) (fun c fs => k.ex c fs ρ)) := by
  show (_ ∧ wE X e ρ _ _) = _
  congr 2
@[simp] theorem wS_exp {e} : wS X (.exp e) ρ k = wE X e ρ (fun _ => k.nx ρ) (fun c fs => k.ex c fs ρ) := id rfl
@[simp] theorem wS_ret {e} : wS X (.ret e) ρ k = wE X e ρ k.rt (fun c fs => k.ex c fs ρ) := id rfl
@[simp] theorem wS_ite {c a b} : wS X (.ite c a b) ρ k = wE X c ρ (fun d => truR d fun t => if t = true then wSs X a ρ k else wSs X b ρ k) (fun c fs => k.ex c fs ρ) := id rfl
@[simp] theorem wS_fr {t ik es body} : wS X (.fr t ik es body) ρ k = wEs X es ρ (fun vs => itR ik vs fun ds => frW (wSs X body) t k ds (frzIt ik es ρ)) (fun c fs => k.ex c fs ρ) := id rfl
@[simp] theorem wS_brk : wS X .brk ρ k = k.bk ρ := id rfl
@[simp] theorem wS_cnt : wS X .cnt ρ k = k.ct ρ := id rfl
@[simp] theorem wS_pas : wS X .pas ρ k = k.nx ρ := id rfl
@[simp] theorem wS_kil {is} : wS X (.kil is) ρ k = k.nx (kil is ρ) := id rfl
@[simp] theorem wS_rai {c es} : wS X (.rai c es) ρ k = wEs X es ρ (fun vs => noLs vs = true ∧ vs.length = (X.flds c).length ∧ k.ex c vs ρ) (fun c fs => k.ex c fs ρ) := id rfl
def augI (o : Bo) (x y : D) (k : D → Prop) : Prop := match x, y with
  | .int a, .int b => binR o x y k
  | _, _ => False
@[simp] theorem augI_int {o a b} {k : D → Prop} : augI o (.int a) (.int b) k = binR o (.int a) (.int b) k := id rfl
def augR (o : Bo) (s : Option Sl) (w : QD → Prop) (k : D → Prop) : Prop := match s with
  | some (.va x) => w fun y => augI o x y k
  | _ => False
@[simp] theorem augR_va {o x} {k : D → Prop} {w : QD → Prop} : augR o (some (.va x)) w k = w fun y => augI o x y k := id rfl
@[simp] theorem wS_aug {i o e} : wS X (.aug i o e) ρ k = augR o ρ[i]? (fun q => wE X e ρ q fun c fs => k.ex c fs ρ) fun z => k.nx (ρ.set i (.va z)) := by
  unfold wS augR
  cases h : ρ[i]? with
  | none => rfl
  | some s => cases s <;> rfl
@[simp] theorem wS_tri {body hc hv hb} : wS X (.tri body hc hv hb) ρ k = wSs X body ρ ⟨k.nx, k.rt, k.bk, k.ct, fun c fs ρ' => wHs X hc hv hb c fs ρ' k⟩ := id rfl
@[simp] theorem wHs_nil {hc hv c fs} : wHs X hc hv [] c fs ρ k = k.ex c fs ρ := id rfl
@[simp] theorem wHs_none {h hc hv b bs c fs} : wHs X (h :: hc) (none :: hv) (b :: bs) c fs ρ k = if X.sub c h = true then wSs X b ρ ⟨k.nx, k.rt, k.bk, k.ct, fun _ _ _ => False⟩ else wHs X hc hv bs c fs ρ k := id rfl
@[simp] theorem wHs_some {h hc v hv b bs c fs} : wHs X (h :: hc) (some v :: hv) (b :: bs) c fs ρ k = if X.sub c h = true then wSs X b (ρ.set v (.xc c fs)) ⟨fun ρ' => k.nx (ρ'.set v .no), k.rt, fun ρ' => k.bk (ρ'.set v .no), fun ρ' => k.ct (ρ'.set v .no), fun _ _ _ => False⟩ else wHs X hc hv bs c fs ρ k := id rfl
def xfR (X : Cl) (o : Option Sl) (f : Str) (Q : QD) : Prop := match o with
  | some (.xc c fs) => ∃ d, ((X.flds c).zip fs).reverse.lookup f = some d ∧ Q d
  | _ => False
@[simp] theorem xfR_xc {c fs f} : xfR X (some (.xc c fs)) f Q = ∃ d, ((X.flds c).zip fs).reverse.lookup f = some d ∧ Q d := id rfl
@[simp] theorem wE_xf {i f} : wE X (.xf i f) ρ Q E = xfR X ρ[i]? f Q := by
  unfold wE xfR
  cases h : ρ[i]? with
  | none => rfl
  | some s => cases s <;> rfl
def xisR (X : Cl) (o : Option Sl) (c : Nat) (Q : QD) : Prop := match o with
  | some (.xc c' _) => Q (.bool (X.sub c' c))
  | _ => False
@[simp] theorem xisR_xc {c c' fs} : xisR X (some (.xc c' fs)) c Q = Q (.bool (X.sub c' c)) := id rfl
@[simp] theorem wE_xis {i c} : wE X (.xis i c) ρ Q E = xisR X ρ[i]? c Q := by
  unfold wE xisR
  cases h : ρ[i]? with
  | none => rfl
  | some s => cases s <;> rfl
@[simp] theorem wS_nnew {i} : wS X (.nnew i) ρ k = k.nx (ρ.set i (.nl [])) := id rfl
def nappR (o : Option Sl) (Q : Sl → Prop) : Prop := match o with
  | some (.nl dss) => dss.length < sizeLine ∧ Q (.nl (dss ++ [[]]))
  | _ => False
@[simp] theorem nappR_nl {dss} {Q : Sl → Prop} : nappR (some (.nl dss)) Q = (dss.length < sizeLine ∧ Q (.nl (dss ++ [[]]))) := id rfl
@[simp] theorem wS_napp {i} : wS X (.napp i) ρ k = nappR ρ[i]? fun s => k.nx (ρ.set i s) := by
  unfold wS nappR
  cases h : ρ[i]? with
  | none => rfl
  | some s => cases s <;> rfl
def naddI (dss : List (List D)) (y : D) (w : QD → Prop) (Q : Sl → Prop) : Prop := match y with
  | .int j => ∃ n ds, L2.ixN dss.length j = some n ∧ dss[n]? = some ds ∧ ds.length < sizeLine ∧ w fun d => noL d = true ∧ Q (.nl (dss.set n (ds ++ [d])))
  | _ => False
@[simp] theorem naddI_int {dss j} {w : QD → Prop} {Q : Sl → Prop} : naddI dss (.int j) w Q = ∃ n ds, L2.ixN dss.length j = some n ∧ dss[n]? = some ds ∧ ds.length < sizeLine ∧ w fun d => noL d = true ∧ Q (.nl (dss.set n (ds ++ [d]))) := id rfl
def naddR (o : Option Sl) (w : (D → Prop) → Prop) (v : QD → Prop) (Q : Sl → Prop) : Prop := match o with
  | some (.nl dss) => w fun y => naddI dss y v Q
  | _ => False
@[simp] theorem naddR_nl {dss} {w : (D → Prop) → Prop} {v : QD → Prop} {Q : Sl → Prop} : naddR (some (.nl dss)) w v Q = w fun y => naddI dss y v Q := id rfl
@[simp] theorem wS_nadd {i a e} : wS X (.nadd i a e) ρ k = naddR ρ[i]? (fun q => wE X a ρ q fun c fs => k.ex c fs ρ) (fun q => wE X e ρ q fun c fs => k.ex c fs ρ) fun s => k.nx (ρ.set i s) := by
  unfold wS naddR
  cases h : ρ[i]? with
  | none => rfl
  | some s => cases s <;> rfl
@[simp] theorem wS_par {i j a b} : wS X (.par i j a b) ρ k = wE X a ρ (fun x => wE X b ρ (fun y => k.nx (((frzL (nms a ++ nms b) ρ).set i (.va x)).set j (.va y))) fun c fs => k.ex c fs ρ) fun c fs => k.ex c fs ρ := id rfl
theorem wS_wh {c body} : wS X (.wh c body) ρ k = ∃ n, whW (fun ρ q e => wT X c ρ q fun c fs => e c fs ρ) (wSs X body) k n ρ := id rfl
def putI (ds : List D) (d y : D) (Q : Sl → Prop) : Prop := match y with
  | .int j => ∃ n, L2.ixN ds.length j = some n ∧ Q (.ol (ds.set n d))
  | _ => False
@[simp] theorem putI_int {ds d j} {Q : Sl → Prop} : putI ds d (.int j) Q = ∃ n, L2.ixN ds.length j = some n ∧ Q (.ol (ds.set n d)) := id rfl
def putR (o : Option Sl) (w : (D → Prop) → Prop) (d : D) (Q : Sl → Prop) : Prop := match o with
  | some (.ol ds) => w fun y => putI ds d y Q
  | _ => False
@[simp] theorem putR_ol {ds d} {w : (D → Prop) → Prop} {Q : Sl → Prop} : putR (some (.ol ds)) w d Q = w fun y => putI ds d y Q := id rfl
@[simp] theorem wS_put {i a e} : wS X (.put i a e) ρ k = wE X e ρ (fun d => putR (shr e d ρ)[i]? (fun q => wE X a (shr e d ρ) q fun c fs => k.ex c fs (shr e d ρ)) d fun s => k.nx ((shr e d ρ).set i s)) (fun c fs => k.ex c fs ρ) := by
  show wE X e ρ _ _ = _
  congr 1
def extR (o : Option Sl) (d : D) (Q : Sl → Prop) : Prop := match d, o with
  | .list es, some (.ol ds) => ds.length + es.length ≤ sizeLine ∧ Q (.ol (ds ++ es))
  | _, _ => False
@[simp] theorem extR_ol {ds es} {Q : Sl → Prop} : extR (some (.ol ds)) (.list es) Q = (ds.length + es.length ≤ sizeLine ∧ Q (.ol (ds ++ es))) := id rfl
@[simp] theorem wS_ext {i e} : wS X (.ext i e) ρ k = ((∃ ds, ρ[i]? = some (.ol ds)) ∧ wE X e ρ (fun d => extR (shr e d ρ)[i]? d fun s => k.nx ((shr e d ρ).set i s)) (fun c fs => k.ex c fs ρ)) := by
  show (_ ∧ wE X e ρ _ _) = _
  congr 2
@[simp] theorem wS_retN : wS X .retN ρ k = k.rt .none := id rfl
@[simp] theorem wE_callv {f es} : wE X (.callv f es) ρ Q E = wEs X es ρ (fun vs => X.call f [.tuple vs] Q E) E := id rfl
/-- a for, by what stays true ahead of each turn -/
theorem frW_ind {body : Env → K → Prop} {t : Tg} (I : List D → Env → Prop) (nil : ∀ ρ, I [] ρ → k.nx ρ) (step : ∀ d ds ρ (R : Env → Prop), I (d :: ds) ρ → (∀ ρ', I ds ρ' → R ρ') → tgR t d ρ fun ρ' => body ρ' ⟨R, k.rt, k.nx, R, k.ex⟩) : ∀ ds ρ, I ds ρ → frW body t k ds ρ
  | [], ρ, h => nil ρ h
  | d :: ds, ρ, h => step d ds ρ _ h fun ρ' h' => frW_ind I nil step ds ρ' h'
end
end Uq

set_option maxHeartbeats 1000000
/-! Plain side, part b: pairs of ints. -/
namespace Uq
open PySem
def pr (a b : Int) : D := .tuple [.int a, .int b]
@[simp] theorem noL_pr {a b} : noL (pr a b) = true := id rfl
@[simp] theorem opq_pr {a b} : opq (pr a b) = false := id rfl
def ltP (a b c d : Int) : Bool := decide (a < c ∨ (a = c ∧ b < d))
theorem dataLt_pr {a b c d : Int} : W.dataLt (pr a b) (pr c d) = ltP a b c d := W.dataLt_ii a b c d
theorem shaped_pr {a b : Int} : SeqAt.shaped (pr a b) = true := by
  simp [SeqAt.shaped, pr, PyData.canLay0, PyData.canLayAll0, PyData.depth, PyData.depthAll]
theorem ltOk_pr {a b c d : Int} : LtOk (pr a b) (pr c d) := ⟨⟨by simp [pr, W.alike, W.alikeAll], fun e => by cases e⟩, shaped_pr, shaped_pr⟩
theorem cmp_le_pr {a b c d : Int} {Q : QD} (h : Q (.bool (!ltP c d a b))) : cmpR .le (pr a b) (pr c d) Q := by
  show LtOk _ _ ∧ Q (.bool (!W.dataLt (pr c d) (pr a b)))
  rw [dataLt_pr]
  exact ⟨ltOk_pr, h⟩
end Uq

set_option maxHeartbeats 1000000
/-! Plain side, part c: slices, places, enumerate. -/
namespace Uq
open PySem
theorem cut_from {xs : List D} {i : Int} (h : 0 ≤ i) : cut xs (some i) none = xs.drop i.toNat := by
  unfold cut
  have e1 : HT.sIx xs.length 0 (some i) = min i.toNat xs.length := by
    show (if i < 0 then _ else _) = _
    rw [if_neg (by omega)]
  have e2 : HT.sIx xs.length xs.length none = xs.length := rfl
  rw [e1, e2]
  by_cases hl : i.toNat ≤ xs.length
  · rw [Nat.min_eq_left hl, List.take_of_length_le (by rw [List.length_drop]; omega)]
  · rw [Nat.min_eq_right (by omega), List.drop_eq_nil_of_le (Nat.le_refl _), List.drop_eq_nil_of_le (by omega), List.take_nil]
theorem cut_to {xs : List D} {i : Int} (h : 0 ≤ i) : cut xs none (some i) = xs.take i.toNat := by
  unfold cut
  have e1 : HT.sIx xs.length xs.length (some i) = min i.toNat xs.length := by
    show (if i < 0 then _ else _) = _
    rw [if_neg (by omega)]
  have e2 : HT.sIx xs.length 0 none = 0 := rfl
  rw [e1, e2, List.drop_zero, Nat.sub_zero]
  by_cases hl : i.toNat ≤ xs.length
  · rw [Nat.min_eq_left hl]
  · rw [Nat.min_eq_right (by omega), List.take_of_length_le (Nat.le_refl _), List.take_of_length_le (by omega)]
theorem cut_neg {xs : List D} {i : Int} (h : i < 0) : cut xs (some i) none = xs.drop (i + xs.length).toNat := by
  unfold cut
  have e1 : HT.sIx xs.length 0 (some i) = (i + xs.length).toNat := by
    show (if i < 0 then _ else _) = _
    rw [if_pos h]
  have e2 : HT.sIx xs.length xs.length none = xs.length := rfl
  rw [e1, e2, List.take_of_length_le (by rw [List.length_drop]; omega)]
theorem atI_nat {xs : List D} {i : Nat} {d : D} (h : xs[i]? = some d) : L2.atI xs (i : Int) = some d := by
  have hl := (List.getElem?_eq_some_iff.mp h).1
  unfold L2.atI L2.ixN
  rw [if_pos (by omega), if_pos (by omega)]
  simpa using h
theorem atI_last {xs : List D} {d : D} : L2.atI (xs ++ [d]) (-1) = some d := by
  unfold L2.atI L2.ixN
  rw [if_neg (by omega), if_pos (by simp only [List.length_append, List.length_singleton]; omega)]
  have e : ((-1 : Int) + ((xs ++ [d]).length : Nat)).toNat = xs.length := by simp only [List.length_append, List.length_singleton]; omega
  simp only [Option.bind_some, e]
  simp
/-- what is left of an enumerate -/
theorem enumF_cons {i : Int} {d : D} {ds : List D} : enumF i (d :: ds) = .tuple [.int i, d] :: enumF (i + 1) ds := rfl
@[simp] theorem enumF_nil {i : Int} : enumF i [] = [] := id rfl
/-- a for over enumerate -/
theorem frW_enum {body : Env → K → Prop} {i j : Nat} {k : K} (I : Nat → List D → Env → Prop) (nil : ∀ n ρ, I n [] ρ → k.nx ρ)
    (step : ∀ n d ds ρ (R : Env → Prop), I n (d :: ds) ρ → (∀ ρ', I (n + 1) ds ρ' → R ρ') → body ((ρ.set i (.va (.int n))).set j (.va d)) ⟨R, k.rt, k.nx, R, k.ex⟩) : ∀ ds n ρ, I n ds ρ → frW body (.tp [i, j]) k (enumF n ds) ρ
  | [], n, ρ, h => nil n ρ h
  | d :: ds, n, ρ, h => by
    rw [enumF_cons]
    exact step n d ds ρ _ h fun ρ' h' => by
      have := frW_enum I nil step ds (n + 1) ρ' h'
      have e : ((n + 1 : Nat) : Int) = (n : Int) + 1 := by omega
      rw [e] at this
      exact this
/-- a for over a range -/
theorem frW_upto {body : Env → K → Prop} {i : Nat} {k : K} {lo : Int} {m : Nat} (I : Nat → Env → Prop) (nil : ∀ ρ, I m ρ → k.nx ρ)
    (step : ∀ n ρ (R : Env → Prop), n < m → I n ρ → (∀ ρ', I (n + 1) ρ' → R ρ') → body (ρ.set i (.va (.int (lo + n)))) ⟨R, k.rt, k.nx, R, k.ex⟩) : ∀ (r n : Nat) ρ, n + r = m → I n ρ → frW body (.nm i) k (upto (lo + n) r) ρ
  | 0, n, ρ, e, h => nil ρ (by have : n = m := by omega
                               rw [← this]; exact h)
  | r + 1, n, ρ, e, h => step n ρ _ (by omega) h fun ρ' h' => by
      have := frW_upto I nil step r (n + 1) ρ' (by omega) h'
      have e2 : lo + ((n + 1 : Nat) : Int) = lo + (n : Int) + 1 := by omega
      rw [e2] at this
      exact this
/-- a comprehension without an if -/
theorem lcG_map {X : Cl} {e : C} {t : Tg} {ρ : Env} {Q : QD} (f : D → D) : ∀ (ds acc : List D), (∀ d ∈ ds, ∀ R : QD, R (f d) → tgR t d ρ fun ρ' => wE X e ρ' R fun _ _ => False) → acc.length + ds.length ≤ sizeLine → Q (.list (acc ++ ds.map f)) → lcG X e t [] ρ ds acc Q
  | [], acc, _, _, hq => by rw [lcG_nil]; simpa using hq
  | d :: ds, acc, h, hl, hq => by
    rw [lcG_cons]
    simp only [List.length_cons] at hl
    exact h d List.mem_cons_self _ ⟨by omega, lcG_map f ds (acc ++ [f d]) (fun x hx => h x (List.mem_cons_of_mem _ hx)) (by rw [List.length_append, List.length_singleton]; omega) (by rw [List.append_assoc]; exact hq)⟩
/-- .. with one -/
theorem lcG_filt {X : Cl} {e : C} {t : Tg} {cd : List C} {ρ : Env} {Q : QD} (f : D → D) (p : D → Bool) : ∀ (ds acc : List D),  (∀ d ∈ ds, ∀ (R : QD) (N : Prop), (p d = true → R (f d)) → (p d = false → N) → tgR t d ρ fun ρ' => wTs X cd ρ' fun b => if b = true then wE X e ρ' R (fun _ _ => False) else N) → acc.length + ds.length ≤ sizeLine → Q (.list (acc ++ (ds.filter p).map f)) → lcG X e t cd ρ ds acc Q
  | [], acc, _, _, hq => by rw [lcG_nil]; simpa using hq
  | d :: ds, acc, h, hl, hq => by
    rw [lcG_cons]
    simp only [List.length_cons] at hl
    refine h d List.mem_cons_self _ _ (fun hp => ⟨by omega, ?_⟩) fun hp => ?_
    · refine lcG_filt f p ds (acc ++ [f d]) (fun x hx => h x (List.mem_cons_of_mem _ hx)) (by rw [List.length_append, List.length_singleton]; omega) ?_
      rw [List.filter_cons_of_pos hp] at hq
      rw [List.append_assoc]
      exact hq
    · refine lcG_filt f p ds acc (fun x hx => h x (List.mem_cons_of_mem _ hx)) (by omega) ?_
      rw [List.filter_cons_of_neg (by rw [hp]; exact Bool.false_ne_true)] at hq
      exact hq
end Uq

set_option maxHeartbeats 1000000
/-! Plain side, part d: statements in parts, the script, small things. -/
namespace Uq
open PySem
theorem wSs_append {X : Cl} (b : List S) : ∀ (a : List S) (ρ : Env) (k : K), wSs X (a ++ b) ρ k = wSs X a ρ ⟨fun ρ' => wSs X b ρ' k, k.rt, k.bk, k.ct, k.ex⟩
  | [], ρ, k => rfl
  | s :: a, ρ, k => by
    show wS X s ρ _ = wS X s ρ _
    congr 2
    funext ρ'
    exact wSs_append b a ρ' k
theorem wSs_cut {X : Cl} (i : Nat) {ss : List S} {ρ : Env} {k : K} (h : wSs X (ss.take i) ρ ⟨fun ρ' => wSs X (ss.drop i) ρ' k, k.rt, k.bk, k.ct, k.ex⟩) : wSs X ss ρ k := by
  have := wSs_append (X := X) (ss.drop i) (ss.take i) ρ k
  rw [List.take_append_drop] at this
  rw [this]
  exact h
@[simp] theorem pmL_0 {a : D} : pmL [0] [a] = [a] := id rfl
@[simp] theorem pmL_210 {a b c : D} : pmL [2, 1, 0] [a, b, c] = [c, b, a] := id rfl
@[simp] theorem pmL_120 {a b c : D} : pmL [1, 2, 0] [a, b, c] = [b, c, a] := id rfl
theorem shr_f {e : C} {d : D} {ρ : Env} (h : Uq.fresh e = false) (hn : noL d = false) : shr e d ρ = frzL (nms e) ρ := by
  unfold shr
  rw [h]
  simp [hn]
theorem asgn_ff {e : C} {i : Nat} {d : D} {ρ : Env} (h : Uq.fresh e = false) (hn : noL d = false) : asgn e i d ρ = (frzL (nms e) ρ).set i (.va d) := by
  rw [asgn_f h, shr_f h hn]
@[simp] theorem shr_l {e : C} {ds : List D} {ρ : Env} (h : Uq.fresh e = true) (hn : noLs ds = true) : shr e (.list ds) ρ = ρ := by
  unfold shr
  rw [h]
  simp only [hn, if_true]
theorem shr_lF {e : C} {ds : List D} {ρ : Env} (hn : noLs ds = false) : shr e (.list ds) ρ = frzL (nms e) ρ := by
  unfold shr
  cases Uq.fresh e <;> simp [hn]
theorem asgn_lF {e : C} {i : Nat} {ds : List D} {ρ : Env} (h : Uq.fresh e = true) (hn : noLs ds = false) : asgn e i (.list ds) ρ = (frzL (nms e) ρ).set i (.ol ds) := by
  unfold asgn
  rw [h, shr_lF hn]
theorem shr_c {e : C} {ds : List D} {ρ : Env} : shr e (.tuple ds) ρ = if noLs ds = true then ρ else frzL (nms e) ρ := by
  unfold shr
  cases Uq.fresh e <;> rfl
@[simp] theorem frzIt_r1 {es : List C} {ρ : Env} : frzIt .rng1 es ρ = ρ := id rfl
@[simp] theorem frzIt_r2 {es : List C} {ρ : Env} : frzIt .rng2 es ρ = ρ := id rfl
@[simp] theorem isBv_b {b c : Bool} : isBv b (.bool c) = (c == b) := id rfl
@[simp] theorem lk_map {ns : List Int} : (ns.map fun n => ((.none : D), PyData.int n)).map (·.2) = ns.map PyData.int := by
  rw [List.map_map]; rfl
@[simp] theorem opq_lk {ns : List Int} : opq (lk ns) = true := id rfl
@[simp] theorem ixR_lk {ns : List Int} {j : Int} {Q : QD} : ixR (lk ns) (.int j) Q = atR (L2.atI (ns.map PyData.int) j) Q := by
  unfold lk; rw [ixR_d, lk_map]
@[simp] theorem lenR_lk {ns : List Int} {Q : QD} : biR .len [lk ns] Q = Q (.int ns.length) := by
  unfold lk; rw [biR_lenD, List.length_map]
@[simp] theorem itR_lk {ns : List Int} {Q : List D → Prop} : itR .val [lk ns] Q = Q (ns.map PyData.int) := by
  unfold lk; rw [itR_d, lk_map]
theorem lk_def {ns : List Int} : lk ns = .dict (ns.map fun n => (.none, .int n)) := rfl
theorem fmod_in {a b : Int} (h : 0 < b) : 0 ≤ a.fmod b ∧ a.fmod b < b := ⟨Int.fmod_nonneg_of_pos a h, Int.fmod_lt_of_pos a h⟩
theorem mul_r {i j : Int} (h0 : -(2 ^ 64) < j) (h1 : j < 2 ^ 64) : MulOk i j := .inr (.inl ⟨h0, h1⟩)
theorem mul_l {i j : Int} (h0 : -(2 ^ 64) < i) (h1 : i < 2 ^ 64) : MulOk i j := .inl ⟨h0, h1⟩
theorem log_small {b : Int} (h0 : 0 < b) (h1 : b < 2147483648) : b.natAbs.log2 < 9000 := by
  have : b.natAbs < 2 ^ 31 := by omega
  have := (Nat.log2_lt (by omega)).mpr this
  omega
theorem log_n {b : Nat} (h0 : 0 < b) (h1 : b < 2147483648) : b.log2 < 9000 := by
  have : b < 2 ^ 31 := by omega
  have := (Nat.log2_lt (by omega)).mpr this
  omega
@[simp] theorem lg3 : (Nat.log2 3 < 9000) = True := by simp; exact log_n (by decide) (by decide)
@[simp] theorem lg4 : (Nat.log2 4 < 9000) = True := by simp; exact log_n (by decide) (by decide)
@[simp] theorem lg5 : (Nat.log2 5 < 9000) = True := by simp; exact log_n (by decide) (by decide)
@[simp] theorem lg6 : (Nat.log2 6 < 9000) = True := by simp; exact log_n (by decide) (by decide)
@[simp] theorem lg7 : (Nat.log2 7 < 9000) = True := by simp; exact log_n (by decide) (by decide)
@[simp] theorem lg9 : (Nat.log2 9 < 9000) = True := by simp; exact log_n (by decide) (by decide)
@[simp] theorem lg11 : (Nat.log2 11 < 9000) = True := by simp; exact log_n (by decide) (by decide)
@[simp] theorem lg12 : (Nat.log2 12 < 9000) = True := by simp; exact log_n (by decide) (by decide)
@[simp] theorem lg24 : (Nat.log2 24 < 9000) = True := by simp; exact log_n (by decide) (by decide)
@[simp] theorem lg50 : (Nat.log2 50 < 9000) = True := by simp; exact log_n (by decide) (by decide)
@[simp] theorem lg60 : (Nat.log2 60 < 9000) = True := by simp; exact log_n (by decide) (by decide)
@[simp] theorem lg61 : (Nat.log2 61 < 9000) = True := by simp; exact log_n (by decide) (by decide)
@[simp] theorem lg113 : (Nat.log2 113 < 9000) = True := by simp; exact log_n (by decide) (by decide)
@[simp] theorem lg500 : (Nat.log2 500 < 9000) = True := by simp; exact log_n (by decide) (by decide)
@[simp] theorem lg1009 : (Nat.log2 1009 < 9000) = True := by simp; exact log_n (by decide) (by decide)
theorem le_size {n : Nat} (h : n ≤ 1000000) : n ≤ sizeLine := Nat.le_trans h (by decide)
theorem lt_size {n : Nat} (h : n < 1000000) : n < sizeLine := Nat.lt_of_lt_of_le h (by decide)
/-- a list of draws: as many as the bounds, each below its own -/
inductive Dr : List Int → List Int → Prop
  | nil : Dr [] []
  | cons {x b xs bs} : 0 ≤ x → x < b → Dr xs bs → Dr (x :: xs) (b :: bs)
theorem Dr.snoc {x b : Int} : ∀ {xs bs : List Int}, Dr xs bs → 0 ≤ x → x < b → Dr (xs ++ [x]) (bs ++ [b])
  | _, _, .nil, h0, h1 => .cons h0 h1 .nil
  | _, _, .cons a c r, h0, h1 => .cons a c (r.snoc h0 h1)
theorem Dr.len : ∀ {xs bs : List Int}, Dr xs bs → xs.length = bs.length
  | _, _, .nil => rfl
  | _, _, .cons _ _ r => by simp [r.len]
theorem Dr.at : ∀ {xs bs : List Int} {i : Nat} {b : Int}, Dr xs bs → bs[i]? = some b → ∃ x, xs[i]? = some x ∧ 0 ≤ x ∧ x < b
  | _, _, 0, _, .cons h0 h1 _, e => by simp at e; subst e; exact ⟨_, rfl, h0, h1⟩
  | _, _, i + 1, _, .cons _ _ r, e => by simp at e ⊢; exact r.at e
theorem Dr.ix {xs bs : List Int} {i : Nat} {b : Int} (h : Dr xs bs) (e : bs[i]? = some b) : ∃ x, L2.atI (xs.map PyData.int) (i : Int) = some (.int x) ∧ 0 ≤ x ∧ x < b := by
  obtain ⟨x, hx, h0, h1⟩ := h.at e
  exact ⟨x, atI_nat (by simp [hx]), h0, h1⟩
theorem rep_at {α : Type} (pre : List α) {n i : Nat} {b : α} (h : i < n) : (pre ++ List.replicate n b)[pre.length + i]? = some b := by
  rw [List.getElem?_append_right (by omega), Nat.add_sub_cancel_left, List.getElem?_replicate, if_pos h]
end Uq

set_option maxHeartbeats 1000000
/-! Plain side, part g: data, pairs of ints, ranges, sorted lists (once for all laws). -/
namespace Uq
open PySem
def isInt : D → Bool
  | .int _ => true
  | _ => false
def isNum : D → Bool
  | .int i => decide (0 ≤ i)
  | _ => false
abbrev Pr2 := Int × Int
def prD (p : Pr2) : D := pr p.1 p.2
/-- data that may be compared -/
abbrev sh (d : D) : Prop := SeqAt.shaped d = true
theorem sh_opq {d : D} (h : sh d) : opq d = false := by
  cases d <;> first | rfl | (have := SeqAt.canLay_of_shaped h; simp [PyData.canLay0] at this)
theorem depth_mem : ∀ {ds : List D} {d : D}, d ∈ ds → PyData.depth d ≤ PyData.depthAll ds
  | [], _, h => nomatch h
  | x :: xs, d, h => by
    simp only [PyData.depthAll]
    rcases List.mem_cons.mp h with rfl | h
    · omega
    · have := depth_mem h
      omega
theorem lay_mem : ∀ {ds : List D} {d : D}, d ∈ ds → PyData.canLayAll0 ds = true → d.canLay0 = true
  | [], _, h, _ => nomatch h
  | x :: xs, d, h, c => by
    simp only [PyData.canLayAll0, Bool.and_eq_true] at c
    rcases List.mem_cons.mp h with rfl | h
    · exact c.1
    · exact lay_mem h c.2
theorem sh_mem {ds : List D} {d : D} (h : sh (.tuple ds)) (hm : d ∈ ds) : sh d := by
  have h1 := SeqAt.canLay_of_shaped h
  have h2 := SeqAt.depth_of_shaped h
  simp only [PyData.canLay0] at h1
  simp only [PyData.depth] at h2
  have h3 := depth_mem hm
  unfold sh SeqAt.shaped
  rw [lay_mem hm h1, decide_eq_true (by omega)]
  rfl
theorem sh_word (s : Str) (h : PyData.canLay0 (.str s) = true) : sh (.str s) := by
  unfold sh SeqAt.shaped
  rw [h]
  simp [PyData.depth]
abbrev lt2 (p q : Pr2) : Prop := p.1 < q.1 ∨ (p.1 = q.1 ∧ p.2 < q.2)
def ins (p : Pr2) : List Pr2 → List Pr2
  | [] => [p]
  | q :: r => if p = q then q :: r else if lt2 p q then p :: q :: r else q :: ins p r
def line : List Pr2 → List Pr2
  | [] => []
  | p :: r => ins p (line r)
abbrev Up (l : List Pr2) : Prop := l.Pairwise lt2
theorem mem_ins {p x : Pr2} : ∀ {l : List Pr2}, x ∈ ins p l ↔ x = p ∨ x ∈ l
  | [] => by simp [ins]
  | q :: r => by
    unfold ins
    split
    · rename_i e
      subst e
      simp
    · split
      · simp
      · simp only [List.mem_cons, mem_ins (l := r)]
        constructor
        · rintro (h | h | h)
          · exact .inr (.inl h)
          · exact .inl h
          · exact .inr (.inr h)
        · rintro (h | h | h)
          · exact .inr (.inl h)
          · exact .inl h
          · exact .inr (.inr h)
theorem mem_line {x : Pr2} : ∀ {l : List Pr2}, x ∈ line l ↔ x ∈ l
  | [] => by simp [line]
  | p :: r => by
    show x ∈ ins p (line r) ↔ _
    rw [mem_ins, mem_line (l := r), List.mem_cons]
theorem lt2_tri {p q : Pr2} (h1 : p ≠ q) (h2 : ¬ lt2 p q) : lt2 q p := by
  unfold lt2 at *
  have h3 : ¬ (p.1 = q.1 ∧ p.2 = q.2) := fun z => h1 (Prod.ext z.1 z.2)
  omega
theorem lt2_trans {p q r : Pr2} (h1 : lt2 p q) (h2 : lt2 q r) : lt2 p r := by unfold lt2 at *; omega
theorem lt2_irr {p : Pr2} : ¬ lt2 p p := by unfold lt2; omega
theorem up_ins {p : Pr2} : ∀ {l : List Pr2}, Up l → Up (ins p l)
  | [], _ => by simp [ins, Up]
  | q :: r, h => by
    unfold ins
    have h' := List.pairwise_cons.mp h
    split
    · exact h
    · rename_i ne
      split
      · rename_i hlt
        refine List.pairwise_cons.mpr ⟨fun x hx => ?_, h⟩
        rcases List.mem_cons.mp hx with rfl | hx
        · exact hlt
        · exact lt2_trans hlt (h'.1 x hx)
      · rename_i hn
        refine List.pairwise_cons.mpr ⟨fun x hx => ?_, up_ins h'.2⟩
        rcases mem_ins.mp hx with rfl | hx
        · exact lt2_tri ne hn
        · exact h'.1 x hx
theorem up_line : ∀ l : List Pr2, Up (line l)
  | [] => List.Pairwise.nil
  | p :: r => up_ins (up_line r)
/-- one line has these members -/
theorem up_uniq : ∀ {a b : List Pr2}, Up a → Up b → (∀ x, x ∈ a ↔ x ∈ b) → a = b
  | [], [], _, _, _ => rfl
  | [], q :: b, _, _, h => absurd ((h q).mpr List.mem_cons_self) (by simp)
  | p :: a, [], _, _, h => absurd ((h p).mp List.mem_cons_self) (by simp)
  | p :: a, q :: b, ha, hb, h => by
    have ha' := List.pairwise_cons.mp ha
    have hb' := List.pairwise_cons.mp hb
    have epq : p = q := by
      rcases List.mem_cons.mp ((h p).mp List.mem_cons_self) with e | hp
      · exact e
      · rcases List.mem_cons.mp ((h q).mpr List.mem_cons_self) with e | hq
        · exact e.symm
        · exact absurd (lt2_trans (ha'.1 q hq) (hb'.1 p hp)) lt2_irr
    subst epq
    rw [up_uniq ha'.2 hb'.2 fun x => ⟨fun hx => ?_, fun hx => ?_⟩]
    · rcases List.mem_cons.mp ((h x).mp (List.mem_cons_of_mem _ hx)) with e | hx'
      · exact absurd (ha'.1 x hx) (by rw [e]; exact lt2_irr)
      · exact hx'
    · rcases List.mem_cons.mp ((h x).mpr (List.mem_cons_of_mem _ hx)) with e | hx'
      · exact absurd (hb'.1 x hx) (by rw [e]; exact lt2_irr)
      · exact hx'
def rowP (p : Pr2) : List Int := [p.1, p.2]
theorem rowD_P (p : Pr2) : rowD (rowP p) = prD p := rfl
theorem bound : ∀ ps : List Pr2, ∃ B : Int, 0 < B ∧ ∀ p ∈ ps, p.1 < B ∧ p.2 < B
  | [] => ⟨1, by decide, fun _ h => nomatch h⟩
  | p :: ps => by
    obtain ⟨B, h0, hB⟩ := bound ps
    refine ⟨max B (max (p.1 + 1) (p.2 + 1)), by omega, fun q hq => ?_⟩
    rcases List.mem_cons.mp hq with rfl | hq
    · omega
    · have := hB q hq
      omega
theorem code_P (B : Int) (p : Pr2) : TS.code B (rowP p) = p.1 * B + p.2 := by
  have e : B ^ 1 = B := by rw [Int.pow_succ, Int.pow_zero, Int.one_mul]
  simp [rowP, TS.code, e]
theorem code_lt {B : Int} {p q : Pr2} (h0 : 0 ≤ p.2 ∧ p.2 < B) (h1 : 0 ≤ q.2 ∧ q.2 < B) (hc : TS.code B (rowP p) ≤ TS.code B (rowP q)) (hne : p ≠ q) : lt2 p q := by
  rw [code_P, code_P] at hc
  unfold lt2
  rcases Int.lt_trichotomy p.1 q.1 with h | h | h
  · exact .inl h
  · refine .inr ⟨h, ?_⟩
    rw [h] at hc
    have h3 : ¬ (p.2 = q.2) := fun z => hne (Prod.ext h z)
    omega
  · exfalso
    have h2 : (q.1 + 1) * B ≤ p.1 * B := Int.mul_le_mul_of_nonneg_right (by omega) (by omega)
    rw [Int.add_mul, Int.one_mul] at h2
    omega
theorem out_line {ps : List Pr2} {B : Int} {out : List (List Int)} (hp : ∀ p ∈ ps, 0 ≤ p.1 ∧ 0 ≤ p.2) (hB : ∀ p ∈ ps, p.1 < B ∧ p.2 < B) (hnd : out.Nodup) (hmem : ∀ r, r ∈ out ↔ r ∈ ps.map rowP) (hpw : out.Pairwise (fun q r => TS.code B q ≤ TS.code B r)) : out.map rowD = (line ps).map prD := by
  have ex : ∃ outP : List Pr2, out = outP.map rowP := by
    have key : ∀ l : List (List Int), (∀ r ∈ l, r ∈ ps.map rowP) → ∃ lp : List Pr2, l = lp.map rowP := fun l => by
      induction l with
      | nil => exact fun _ => ⟨[], rfl⟩
      | cons r l ih =>
        intro hr
        obtain ⟨lp, rfl⟩ := ih fun x hx => hr x (List.mem_cons_of_mem _ hx)
        obtain ⟨p, _, rfl⟩ := List.mem_map.mp (hr r List.mem_cons_self)
        exact ⟨p :: lp, rfl⟩
    exact key out fun r hr => (hmem r).mp hr
  obtain ⟨outP, rfl⟩ := ex
  have inj : ∀ {p q : Pr2}, rowP p = rowP q → p = q := fun {p q} e => by
    simp only [rowP, List.cons.injEq, and_true] at e
    exact Prod.ext e.1 e.2
  have mem : ∀ x, x ∈ outP ↔ x ∈ ps := fun x => by
    constructor
    · intro hx
      obtain ⟨y, hy, e⟩ := List.mem_map.mp ((hmem (rowP x)).mp (List.mem_map_of_mem hx))
      rw [← inj e]; exact hy
    · intro hx
      obtain ⟨y, hy, e⟩ := List.mem_map.mp ((hmem (rowP x)).mpr (List.mem_map_of_mem hx))
      rw [← inj e]; exact hy
  have up : Up outP := by
    rw [List.pairwise_map] at hpw
    rw [List.nodup_iff_pairwise_ne] at hnd
    rw [List.pairwise_map] at hnd
    refine List.Pairwise.imp_of_mem (R := fun p q => TS.code B (rowP p) ≤ TS.code B (rowP q) ∧ rowP p ≠ rowP q) (fun {p q} hpm hqm z => ?_) (hpw.and hnd)
    have p1 := hp p ((mem p).mp hpm)
    have p2 := hB p ((mem p).mp hpm)
    have q1 := hp q ((mem q).mp hqm)
    have q2 := hB q ((mem q).mp hqm)
    exact code_lt ⟨p1.2, p2.2⟩ ⟨q1.2, q2.2⟩ z.1 fun e => z.2 (by rw [e])
  have e : outP = line ps := up_uniq up (up_line ps) fun x => by rw [mem, mem_line]
  rw [e, List.map_map]
  rfl
theorem sset_prs {ps : List Pr2} {Q : QD} (hl : ps.length < 64) (hp : ∀ p ∈ ps, 0 ≤ p.1 ∧ 0 ≤ p.2) (h : Q (.list ((line ps).map prD))) : biR .sset [.list (ps.map prD)] Q := by
  obtain ⟨B, h0, hB⟩ := bound ps
  refine ⟨ps.map rowP, 2, B, by rw [List.map_map]; rfl, by simpa using hl, by decide, fun r hr => ?_, fun out hnd hmem hpw => ?_⟩
  · obtain ⟨p, hpm, rfl⟩ := List.mem_map.mp hr
    refine ⟨rfl, fun m hm => ?_⟩
    have h1 := hp p hpm
    have h2 := hB p hpm
    simp only [rowP, List.mem_cons, List.not_mem_nil, or_false] at hm
    rcases hm with rfl | rfl
    · exact ⟨h1.1, h2.1⟩
    · exact ⟨h1.2, h2.2⟩
  · rw [out_line hp hB hnd hmem hpw]
    exact h
@[simp] theorem noL_prD {p : Pr2} : noL (prD p) = true := id rfl
theorem bools_map {α : Type} (f : α → Bool) : ∀ l : List α, bools? (l.map fun x => .bool (f x)) = some (l.map f)
  | [] => rfl
  | x :: l => by simp [bools?, bools_map f l]
theorem mul_small {i j : Int} (h0 : 0 ≤ i) (h1 : i < 1000000) : MulOk i j := .inl ⟨by omega, by omega⟩
theorem upto_map : ∀ (m : Nat) (lo : Int), upto lo m = (List.range m).map fun k => .int (lo + k)
  | 0, _ => rfl
  | m + 1, lo => by
    rw [upto, upto_map m (lo + 1), List.range_succ_eq_map, List.map_cons, List.map_map]
    congr 1
    · simp
    · refine List.map_congr_left fun k _ => ?_
      simp only [Function.comp]
      congr 1
      omega
theorem max_if {i j : Int} : (if j > i then j else i) = max i j := by
  split <;> omega
def short : Nat → D → Prop
  | k + 1, .tuple ds => ds.length ≤ 1000 ∧ ∀ x ∈ ds, short k x
  | 0, .tuple _ => False
  | _, .list _ => False
  | _, .dict _ => False
  | _, _ => True
theorem cmp_eq_b {b c : Bool} {Q : QD} (h : Q (.bool (decide (b = c)))) : cmpR .eq (.bool b) (.bool c) Q := by
  refine ⟨⟨by simp [SeqAt.shaped, PyData.canLay0, PyData.depth], by simp [SeqAt.shaped, PyData.canLay0, PyData.depth]⟩, ?_⟩
  have e : PyData.eqv (.bool b) (.bool c) = decide (b = c) := by cases b <;> cases c <;> rfl
  rw [e]
  exact h
theorem short_str {k : Nat} {s : Str} : short k (.str s) := by cases k <;> trivial
theorem short_int {k : Nat} {s : Int} : short k (.int s) := by cases k <;> trivial
theorem short_bool {k : Nat} {s : Bool} : short k (.bool s) := by cases k <;> trivial
theorem short_none {k : Nat} : short k .none := by cases k <;> trivial
theorem short_pr {k : Nat} {p : Pr2} : short (k + 1) (prD p) := ⟨by simp, fun x hx => by
  simp at hx
  rcases hx with rfl | rfl <;> exact short_int⟩
theorem short_prs {k : Nat} {ps : List Pr2} (h : ps.length ≤ 1000) : short (k + 2) (.tuple (ps.map prD)) := ⟨by simpa using h, fun x hx => by
  obtain ⟨p, _, rfl⟩ := List.mem_map.mp hx
  exact short_pr⟩
theorem short_tup {k : Nat} {ds : List D} (hl : ds.length ≤ 1000) (h : ∀ x ∈ ds, short k x) : short (k + 1) (.tuple ds) := ⟨hl, h⟩
theorem upto_len : ∀ (m : Nat) (lo : Int), (upto lo m).length = m
  | 0, _ => rfl
  | m + 1, lo => by simp [upto, upto_len m]
theorem noLs_upto : ∀ (m : Nat) (lo : Int), noLs (upto lo m) = true
  | 0, _ => rfl
  | m + 1, lo => by rw [upto, noLs_cons, noLs_upto m]; rfl
theorem upto_app : ∀ (a b : Nat) (lo : Int), upto lo a ++ upto (lo + a) b = upto lo (a + b)
  | 0, b, lo => by simp [upto]
  | a + 1, b, lo => by
    rw [Nat.succ_add, upto, upto, List.cons_append]
    have : lo + ((a + 1 : Nat) : Int) = lo + 1 + (a : Int) := by omega
    rw [this, upto_app a b (lo + 1)]
theorem upto_drop : ∀ (k m : Nat) (lo : Int), (upto lo m).drop k = upto (lo + k) (m - k)
  | 0, m, lo => by simp
  | k + 1, 0, lo => by simp [upto]
  | k + 1, m + 1, lo => by
    rw [upto, List.drop_succ_cons, upto_drop k m (lo + 1), Nat.add_sub_add_right]
    congr 1
    omega
theorem upto_getU {m i : Nat} {lo : Int} (h : i < m) : (upto lo m)[i]? = some (.int (lo + i)) := by
  rw [upto_map]
  simp [h]
theorem upto_at {m : Nat} {i lo : Int} (h0 : 0 ≤ i) (h : i < m) : L2.atI (upto lo m) i = some (.int (lo + i)) := by
  have := atI_nat (upto_getU (m := m) (i := i.toNat) (lo := lo) (by omega))
  have e : ((i.toNat : Nat) : Int) = i := by omega
  rw [e] at this
  exact this
theorem upto_last {m : Nat} {lo : Int} (h : 0 < m) : L2.atI (upto lo m) (-1) = some (.int (lo + m - 1)) := by
  obtain ⟨k, rfl⟩ : ∃ k, m = k + 1 := ⟨m - 1, by omega⟩
  rw [← upto_app k 1 lo]
  simp only [upto]
  rw [atI_last]
  congr 2
  omega
theorem noLs_prs : ∀ ps : List Pr2, noLs (ps.map prD) = true
  | [] => rfl
  | p :: ps => by rw [List.map_cons, noLs_cons, noLs_prs ps]; rfl
theorem noLs_ints : ∀ ps : List Int, noLs (ps.map .int) = true
  | [] => rfl
  | p :: ps => by rw [List.map_cons, noLs_cons, noLs_ints ps]; rfl
def leP2 (p q : Pr2) : Bool := decide (p.1 < q.1 ∨ (p.1 = q.1 ∧ p.2 ≤ q.2))
theorem dataLe_prD (p q : Pr2) : W.dataLe false id (prD p) (prD q) = leP2 p q :=
  congrFun (congrFun (W.dataLe_ii (β := Pr2) (·.1) (·.2)) p) q
theorem srt_map (ps : List Pr2) : (ps.map prD).mergeSort (W.dataLe false id) = (ps.mergeSort leP2).map prD :=
  (List.map_mergeSort fun p _ q _ => (dataLe_prD p q).symm).symm
theorem srt_pw (ps : List Pr2) : (ps.mergeSort leP2).Pairwise (fun p q => leP2 p q = true) := by
  refine List.pairwise_mergeSort (fun a b c h1 h2 => ?_) (fun a b => ?_) ps
  · simp only [leP2, decide_eq_true_eq] at *
    omega
  · simp only [leP2, Bool.or_eq_true, decide_eq_true_eq]
    omega
theorem sorted_prs {ps : List Pr2} {Q : QD} (h : Q (.list ((ps.mergeSort leP2).map prD))) : biR .sorted [.list (ps.map prD)] Q := by
  refine ⟨⟨fun d hd e he => ?_, ?_, fun d hd => ?_⟩, ?_⟩
  · obtain ⟨p, _, rfl⟩ := List.mem_map.mp hd
    obtain ⟨q, _, rfl⟩ := List.mem_map.mp he
    simp [prD, pr, W.alike, W.alikeAll]
  · exact W.Sortable.tuples fun b => ⟨_, _, rfl⟩
  · obtain ⟨p, _, rfl⟩ := List.mem_map.mp hd
    exact shaped_pr
  · rw [srt_map]; exact h
theorem eqv_pr {a b c d : Int} : PyData.eqv (pr a b) (pr c d) = decide (a = c ∧ b = d) := by
  simp only [pr, PyData.eqv, PyData.eqvAll]
  by_cases h1 : a = c <;> by_cases h2 : b = d <;> simp [h1, h2]
theorem line_of_up {ps qs : List Pr2} (hu : Up qs) (h : ∀ x, x ∈ qs ↔ x ∈ ps) : qs = line ps :=
  up_uniq hu (up_line ps) fun x => by rw [h, mem_line]
theorem up_snoc {qs : List Pr2} {p : Pr2} (hu : Up qs) (h : ∀ q ∈ qs, lt2 q p) : Up (qs ++ [p]) := by
  refine List.pairwise_append.mpr ⟨hu, List.pairwise_singleton _ _, fun a ha b hb => ?_⟩
  rw [List.mem_singleton] at hb
  subst hb
  exact h a ha
theorem nil_or_snoc {α : Type} (l : List α) : l = [] ∨ ∃ a b, l = a ++ [b] := by
  rcases List.eq_nil_or_concat l with h | ⟨a, b, h⟩
  · exact .inl h
  · exact .inr ⟨a, b, by rw [h, List.concat_eq_append]⟩
def shd (k : Nat) (d : D) : Prop := d.canLay0 = true ∧ d.depth ≤ k
theorem shd_sh {k : Nat} {d : D} (h : shd k d) (hk : k ≤ 64) : sh d := by
  unfold sh SeqAt.shaped
  rw [h.1, decide_eq_true (Nat.le_trans h.2 hk)]
  rfl
theorem shd_le {k m : Nat} {d : D} (h : shd k d) (hk : k ≤ m) : shd m d := ⟨h.1, Nat.le_trans h.2 hk⟩
theorem shd_all {k : Nat} : ∀ {ds : List D}, (∀ x ∈ ds, shd k x) → PyData.canLayAll0 ds = true ∧ PyData.depthAll ds ≤ k
  | [], _ => ⟨rfl, by simp [PyData.depthAll]⟩
  | d :: ds, h => by
    obtain ⟨a, b⟩ := shd_all fun x hx => h x (List.mem_cons_of_mem _ hx)
    obtain ⟨c, e⟩ := h d List.mem_cons_self
    simp only [PyData.canLayAll0, PyData.depthAll, a, c, Bool.and_self, true_and]
    omega
theorem shd_tup {k : Nat} {ds : List D} (h : ∀ x ∈ ds, shd k x) : shd (k + 1) (.tuple ds) := by
  obtain ⟨a, b⟩ := shd_all h
  exact ⟨by simpa [PyData.canLay0] using a, by simp only [PyData.depth]; omega⟩
theorem shd_lst {k : Nat} {ds : List D} (h : ∀ x ∈ ds, shd k x) : shd (k + 1) (.list ds) := by
  obtain ⟨a, b⟩ := shd_all h
  exact ⟨by simpa [PyData.canLay0] using a, by simp only [PyData.depth]; omega⟩
theorem shd_int {k : Nat} {i : Int} : shd k (.int i) := ⟨rfl, by simp [PyData.depth]⟩
theorem shd_bool {k : Nat} {i : Bool} : shd k (.bool i) := ⟨rfl, by simp [PyData.depth]⟩
theorem shd_none {k : Nat} : shd k .none := ⟨rfl, by simp [PyData.depth]⟩
theorem shd_str {k : Nat} {s : Str} (h : PyData.canLay0 (.str s) = true) : shd k (.str s) := ⟨h, by simp [PyData.depth]⟩
theorem shd_pr {k : Nat} {p : Pr2} : shd (k + 1) (prD p) := shd_tup fun x hx => by
  simp at hx
  rcases hx with rfl | rfl <;> exact shd_int
theorem shd_prs {k : Nat} {ps : List Pr2} : shd (k + 2) (.tuple (ps.map prD)) := shd_tup fun x hx => by
  obtain ⟨p, _, rfl⟩ := List.mem_map.mp hx
  exact shd_pr
theorem shd_prl {k : Nat} {ps : List Pr2} : shd (k + 2) (.list (ps.map prD)) := shd_lst fun x hx => by
  obtain ⟨p, _, rfl⟩ := List.mem_map.mp hx
  exact shd_pr
theorem sh_prs {ps : List Pr2} : sh (.tuple (ps.map prD)) := shd_sh (shd_prs (k := 0)) (by decide)
@[simp] theorem look_word {a w : D} : List.lookup (Str.ofString "word") [(Str.ofString "at", a), (Str.ofString "word", w)] = some w := by
  have h : (Str.ofString "word" == Str.ofString "at") = false := by decide
  simp [List.lookup, h]
@[simp] theorem look_at {a w : D} : List.lookup (Str.ofString "at") [(Str.ofString "at", a), (Str.ofString "word", w)] = some a := by
  simp [List.lookup]
theorem atI_mem {ds : List D} {j : Int} (h0 : 0 ≤ j) (h1 : j < ds.length) : ∃ d, L2.atI ds j = some d ∧ d ∈ ds := by
  have e : ((j.toNat : Nat) : Int) = j := by omega
  have hl : j.toNat < ds.length := by omega
  refine ⟨ds[j.toNat], ?_, List.getElem_mem hl⟩
  have := atI_nat (xs := ds) (i := j.toNat) (List.getElem?_eq_getElem hl)
  rw [e] at this
  exact this
theorem shd_pair {k : Nat} {a b : D} (ha : shd k a) (hb : shd k b) : shd (k + 1) (.tuple [a, b]) := shd_tup fun x hx => by
  simp at hx
  rcases hx with rfl | rfl <;> assumption
theorem shd_uno {k : Nat} {a : D} (ha : shd k a) : shd (k + 1) (.tuple [a]) := shd_tup fun x hx => by
  simp at hx
  subst hx; exact ha
theorem cut1 {xs : List D} : cut xs (some 1) none = xs.drop 1 := cut_from (by decide)
theorem cutT1 {xs : List D} : cut xs none (some 1) = xs.take 1 := cut_to (by decide)
theorem si (i : Int) : sh (.int i) := shd_sh (k := 0) shd_int (by decide)
theorem sn : sh .none := shd_sh (k := 0) shd_none (by decide)
end Uq

set_option maxHeartbeats 1000000
/-! Plain side, part e: a core term is run (for closed parts of a law, by the kernel). -/
namespace Uq
open PySem
/-- what a run comes to: none, if it can't be told here -/
inductive Rz (α : Type) where
  | ok (a : α) | ex (c : Nat) (fs : List D)
abbrev Mz (α : Type) := Option (Rz α)
@[inline] def bz {α β : Type} (x : Mz α) (f : α → Mz β) : Mz β := match x with
  | some (.ok a) => f a
  | some (.ex c fs) => some (.ex c fs)
  | none => none
theorem bz_ok {α β : Type} {x : Mz α} {f : α → Mz β} {b : β} (h : bz x f = some (.ok b)) : ∃ a, x = some (.ok a) ∧ f a = some (.ok b) := by
  unfold bz at h
  split at h
  · exact ⟨_, rfl, h⟩
  · cases h
  · cases h
/-! values -/
def truX (d : D) : Option Bool := match d with
  | .none => some false
  | .bool b => some b
  | .int i => some (i != 0)
  | .list ds => some (!ds.isEmpty)
  | .tuple ds => some (!ds.isEmpty)
  | _ => none
theorem truX_ok {d : D} {b : Bool} {Q : Bool → Prop} (h : truX d = some b) (q : Q b) : truR d Q := by
  cases d <;> simp only [truX, Option.some.injEq, reduceCtorEq] at h <;> subst h <;> exact q
def few : Nat := 4096
theorem few_le {n : Nat} (h : n ≤ few) : n ≤ sizeLine := Nat.le_trans h (by decide)
theorem few_lt {n : Nat} (h : n < few) : n < sizeLine := Nat.lt_of_lt_of_le h (by decide)
def binX (o : Bo) (x y : D) : Option D := match o, x, y with
  | .add, .int i, .int j => some (.int (i + j))
  | .add, .list a, .list b => if a.length + b.length ≤ few then some (.list (a ++ b)) else none
  | .add, .tuple a, .tuple b => if a.length + b.length ≤ few then some (.tuple (a ++ b)) else none
  | .sub, .int i, .int j => some (.int (i - j))
  | .mul, .int i, .int j => if i.natAbs < 2 ^ 64 ∨ j.natAbs < 2 ^ 64 then some (.int (i * j)) else none
  | .mul, .list a, .int j => if j.natAbs ≤ few ∧ a.length * j.toNat ≤ few then some (.list (List.replicate j.toNat a).flatten) else none
  | .fdiv, .int i, .int j => if j ≠ 0 ∧ j.natAbs.log2 < 9000 then some (.int (i.fdiv j)) else none
  | .mod, .int i, .int j => if j ≠ 0 then some (.int (i.fmod j)) else none
  | .pow, .int i, .int j => if 0 ≤ j ∧ j ≤ 1000 ∧ i.natAbs < 2 ^ 64 then some (.int (i ^ j.toNat)) else none
  | _, _, _ => none
theorem binX_ok {o : Bo} {x y d : D} {Q : QD} (h : binX o x y = some d) (q : Q d) : binR o x y Q := by
  unfold binX at h
  split at h
  · cases h; exact q
  · split at h
    · cases h; exact ⟨few_le (by assumption), q⟩
    · cases h
  · split at h
    · cases h; exact ⟨few_le (by assumption), q⟩
    · cases h
  · cases h; exact q
  · split at h
    · rename_i c
      cases h
      refine ⟨?_, q⟩
      rcases c with c | c
      · exact .inl ⟨by omega, by omega⟩
      · exact .inr (.inl ⟨by omega, by omega⟩)
    · cases h
  · split at h
    · rename_i c
      cases h
      obtain ⟨c1, c2⟩ := c
      unfold few at c1
      exact ⟨⟨by omega, by omega, few_le c2⟩, q⟩
    · cases h
  · split at h
    · cases h; exact ⟨by assumption, q⟩
    · cases h
  · split at h
    · cases h; exact ⟨by assumption, q⟩
    · cases h
  · split at h
    · rename_i c
      cases h
      obtain ⟨c1, c2, c3⟩ := c
      exact ⟨⟨c1, by omega, c3⟩, q⟩
    · cases h
  · cases h
/-- == of data, where it is plain -/
def eqX (x y : D) : Option Bool := match x, y with
  | .int i, .int j => some (decide (i = j))
  | .str i, .str j => some (decide (i = j))
  | x, y => if SeqAt.shaped x = true ∧ SeqAt.shaped y = true then some (PyData.eqv x y) else none
def ltX (x y : D) : Option Bool := match x, y with
  | .int i, .int j => some (decide (i < j))
  | x, y => if (W.alike x y = true ∧ isNon x = false) ∧ SeqAt.shaped x = true ∧ SeqAt.shaped y = true then some (W.dataLt x y) else none
def geX (x y : D) : Option Bool := (ltX x y).map (!·)
def ngt (x y : D) : Option Bool := match x, y with
  | .int i, .int j => some (decide (i ≤ j))
  | x, y => if (W.alike x y = true ∧ isNon x = false) ∧ SeqAt.shaped x = true ∧ SeqAt.shaped y = true then some (!W.dataLt y x) else none
def gtX (x y : D) : Option Bool := match x, y with
  | .int i, .int j => some (decide (j < i))
  | x, y => if (W.alike x y = true ∧ isNon x = false) ∧ SeqAt.shaped x = true ∧ SeqAt.shaped y = true then some (W.dataLt y x) else none
def cmpX (o : Co) (x y : D) : Option Bool := match o with
  | .eq => eqX x y
  | .ne => (eqX x y).map (!·)
  | .lt => ltX x y
  | .ge => geX x y
  | .le => ngt x y
  | .gt => gtX x y
theorem ltOk_of {x y : D} (c : (W.alike x y = true ∧ isNon x = false) ∧ SeqAt.shaped x = true ∧ SeqAt.shaped y = true) : LtOk x y := ⟨⟨c.1.1, fun e => by have := c.1.2; rw [e] at this; cases this⟩, c.2⟩
theorem cmpX_ok {o : Co} {x y : D} {b : Bool} {Q : QD} (h : cmpX o x y = some b) (q : Q (.bool b)) : cmpR o x y Q := by
  have two : ∀ {A B : Prop} [Decidable A] {u v : Option Bool} {b}, (if A then u else none) = some b → A ∧ u = some b := fun {A B _ u v b} h => by
    split at h
    · exact ⟨by assumption, h⟩
    · cases h
  cases o with
  | eq =>
    simp only [cmpX] at h
    unfold eqX at h
    unfold cmpR
    split at h
    · cases h; exact q
    · cases h; exact q
    · obtain ⟨c, h⟩ := two (B := True) (v := none) h
      cases h
      split <;> first | exact ⟨c, q⟩ | (rename_i h1 h2; first | exact absurd rfl (h1 _ _ rfl) | skip) | skip
      all_goals first | exact q | skip
      all_goals simp_all
  | ne =>
    simp only [cmpX, Option.map_eq_some_iff] at h
    obtain ⟨c, h, rfl⟩ := h
    unfold eqX at h
    unfold cmpR
    split at h
    · cases h; exact q
    · cases h; exact q
    · obtain ⟨c, h⟩ := two (B := True) (v := none) h
      cases h
      split <;> first | exact ⟨c, q⟩ | skip
      all_goals simp_all
  | lt =>
    simp only [cmpX] at h
    unfold ltX at h
    unfold cmpR
    split at h
    · cases h; exact q
    · obtain ⟨c, h⟩ := two (B := True) (v := none) h
      cases h
      split <;> first | exact ⟨ltOk_of c, q⟩ | skip
      all_goals simp_all
  | le =>
    simp only [cmpX] at h
    unfold ngt at h
    unfold cmpR
    split at h
    · cases h; exact q
    · obtain ⟨c, h⟩ := two (B := True) (v := none) h
      cases h
      split <;> first | exact ⟨ltOk_of c, q⟩ | skip
      all_goals simp_all
  | gt =>
    simp only [cmpX] at h
    unfold gtX at h
    unfold cmpR
    split at h
    · cases h; exact q
    · obtain ⟨c, h⟩ := two (B := True) (v := none) h
      cases h
      split <;> first | exact ⟨ltOk_of c, q⟩ | skip
      all_goals simp_all
  | ge =>
    simp only [cmpX, geX, Option.map_eq_some_iff] at h
    obtain ⟨c, h, rfl⟩ := h
    unfold ltX at h
    unfold cmpR
    split at h
    · rename_i i j
      cases h
      have e : (!decide (i < j)) = decide (j ≤ i) := by
        by_cases c : i < j
        · rw [decide_eq_true c, decide_eq_false (by omega)]; rfl
        · rw [decide_eq_false c, decide_eq_true (by omega)]; rfl
      rw [e] at q
      exact q
    · obtain ⟨c, h⟩ := two (B := True) (v := none) h
      cases h
      split <;> first | exact ⟨ltOk_of c, q⟩ | skip
      all_goals simp_all
end Uq

set_option maxHeartbeats 1000000
/-! Plain side, part f: a core term is run: built-ins, expressions, statements, functions. -/
namespace Uq
open PySem
def prs? : List D → Option (List Pr2)
  | [] => some []
  | .tuple [.int a, .int b] :: ds => (prs? ds).map ((a, b) :: ·)
  | _ => none
theorem prs_eq : ∀ {ds : List D} {ps : List Pr2}, prs? ds = some ps → ds = ps.map prD
  | [], ps, h => by cases h; rfl
  | d :: ds, ps, h => by
    unfold prs? at h
    split at h
    · rename_i e; cases e
    · rename_i a b ds' e
      cases e
      rw [Option.map_eq_some_iff] at h
      obtain ⟨qs, h, rfl⟩ := h
      rw [prs_eq h]; rfl
    · cases h
theorem ints_map : ∀ {ds : List D} {ns : List Int}, ints? ds = some ns → ds = ns.map PyData.int
  | [], ns, h => by cases h; rfl
  | d :: ds, ns, h => by
    unfold ints? at h
    split at h
    · rename_i e; cases e
    · rename_i i ds' e
      cases e
      rw [Option.map_eq_some_iff] at h
      obtain ⟨qs, h, rfl⟩ := h
      rw [ints_map h]; rfl
    · cases h
/-! sorting by insertion -/
section
variable {α : Type} (le : α → α → Bool)
def insB (x : α) : List α → List α
  | [] => [x]
  | y :: ys => if le x y then x :: y :: ys else y :: insB x ys
def isort : List α → List α
  | [] => []
  | x :: xs => insB le x (isort xs)
variable {le}
theorem insB_perm {x : α} : ∀ {l : List α}, (insB le x l).Perm (x :: l)
  | [] => .refl _
  | y :: ys => by
    unfold insB
    split
    · exact .refl _
    · exact ((insB_perm (x := x) (l := ys)).cons y).trans (List.Perm.swap x y ys)
theorem isort_perm : ∀ {l : List α}, (isort le l).Perm l
  | [] => .refl _
  | x :: xs => insB_perm.trans ((isort_perm (l := xs)).cons x)
theorem insB_pw (tot : ∀ a b, le a b = true ∨ le b a = true) (tr : ∀ a b c, le a b = true → le b c = true → le a c = true) {x : α} : ∀ {l : List α}, l.Pairwise (fun a b => le a b = true) → (insB le x l).Pairwise (fun a b => le a b = true)
  | [], _ => List.pairwise_singleton _ _
  | y :: ys, h => by
    have h2 := List.pairwise_cons.mp h
    unfold insB
    split
    · rename_i c
      refine List.pairwise_cons.mpr ⟨fun z hz => ?_, h⟩
      rcases List.mem_cons.mp hz with rfl | hz
      · exact c
      · exact tr _ _ _ c (h2.1 z hz)
    · rename_i c
      refine List.pairwise_cons.mpr ⟨fun z hz => ?_, insB_pw tot tr h2.2⟩
      rcases List.mem_cons.mp (insB_perm.mem_iff.mp hz) with rfl | hz
      · exact (tot _ _).resolve_left c
      · exact h2.1 z hz
theorem isort_pw (tot : ∀ a b, le a b = true ∨ le b a = true) (tr : ∀ a b c, le a b = true → le b c = true → le a c = true) : ∀ {l : List α}, (isort le l).Pairwise (fun a b => le a b = true)
  | [] => .nil
  | _ :: xs => insB_pw tot tr (isort_pw tot tr (l := xs))
theorem msort_isort (tot : ∀ a b, le a b = true ∨ le b a = true) (tr : ∀ a b c, le a b = true → le b c = true → le a c = true) (anti : ∀ a b, le a b = true → le b a = true → a = b) (l : List α) : l.mergeSort le = isort le l :=
  List.Perm.eq_of_pairwise (le := fun a b => le a b = true) (fun a b _ _ h1 h2 => anti a b h1 h2) (List.pairwise_mergeSort (fun a b c => tr a b c) (fun a b => by rcases tot a b with h | h <;> simp [h]) l) (isort_pw tot tr) ((List.mergeSort_perm l le).trans isort_perm.symm)
end
def leI (a b : Int) : Bool := decide (a ≤ b)
theorem msort_prs (ps : List Pr2) : ps.mergeSort leP2 = isort leP2 ps := by
  refine msort_isort (fun a b => ?_) (fun a b c h1 h2 => ?_) (fun a b h1 h2 => ?_) ps
  · simp only [leP2, decide_eq_true_eq]; omega
  · simp only [leP2, decide_eq_true_eq] at *; omega
  · simp only [leP2, decide_eq_true_eq] at h1 h2; exact Prod.ext (by omega) (by omega)
theorem msort_ints (ns : List Int) : (ns.map PyData.int).mergeSort (W.dataLe false id) = (isort leI ns).map PyData.int := by
  have e : ∀ a b : Int, W.dataLe false id (PyData.int a) (PyData.int b) = leI a b := fun a b => congrFun (congrFun (W.dataLe_int (β := Int) fun b => b) a) b
  rw [← msort_isort (le := leI) (fun a b => ?_) (fun a b c h1 h2 => ?_) (fun a b h1 h2 => ?_) ns]
  · exact (List.map_mergeSort fun p _ q _ => (e p q).symm).symm
  · simp only [leI, decide_eq_true_eq]; omega
  · simp only [leI, decide_eq_true_eq] at *; omega
  · simp only [leI, decide_eq_true_eq] at h1 h2; omega
theorem sorted_ints {ns : List Int} {Q : QD} (h : Q (.list ((isort leI ns).map PyData.int))) : biR .sorted [.list (ns.map PyData.int)] Q := by
  refine ⟨⟨fun d hd e he => ?_, ?_, fun d hd => ?_⟩, ?_⟩
  · obtain ⟨p, _, rfl⟩ := List.mem_map.mp hd
    obtain ⟨q, _, rfl⟩ := List.mem_map.mp he
    simp [W.alike]
  · refine .inr fun d hd => ?_
    obtain ⟨p, _, rfl⟩ := List.mem_map.mp hd
    exact ⟨(fun e => by cases e), (fun xs e => by cases e)⟩
  · obtain ⟨p, _, rfl⟩ := List.mem_map.mp hd
    exact si p
  · rw [msort_ints]; exact h
def maxI (m : Int) : List Int → Int
  | [] => m
  | x :: xs => maxI (if m < x then x else m) xs
def minI (m : Int) : List Int → Int
  | [] => m
  | x :: xs => minI (if x < m then x else m) xs
theorem maxI_is : ∀ (xs : List Int) (m : Int), maxI m xs ∈ m :: xs ∧ ∀ y ∈ m :: xs, y ≤ maxI m xs
  | [], m => ⟨List.mem_cons_self, fun y hy => by rw [List.mem_singleton.mp hy]; exact Int.le_refl _⟩
  | x :: xs, m => by
    obtain ⟨h1, h2⟩ := maxI_is xs (if m < x then x else m)
    have h3 := h2 _ List.mem_cons_self
    refine ⟨?_, fun y hy => ?_⟩
    · show maxI _ xs ∈ _
      rcases List.mem_cons.mp h1 with e | e
      · rw [e]; split <;> simp
      · exact List.mem_cons_of_mem _ (List.mem_cons_of_mem _ e)
    · show y ≤ maxI _ xs
      rcases List.mem_cons.mp hy with rfl | hy
      · split at h3 <;> rename_i c <;> simp only [c, if_true, if_false] <;> omega
      · rcases List.mem_cons.mp hy with rfl | hy
        · split at h3 <;> rename_i c <;> simp only [c, if_true, if_false] <;> omega
        · exact h2 y (List.mem_cons_of_mem _ hy)
theorem minI_is : ∀ (xs : List Int) (m : Int), minI m xs ∈ m :: xs ∧ ∀ y ∈ m :: xs, minI m xs ≤ y
  | [], m => ⟨List.mem_cons_self, fun y hy => by rw [List.mem_singleton.mp hy]; exact Int.le_refl _⟩
  | x :: xs, m => by
    obtain ⟨h1, h2⟩ := minI_is xs (if x < m then x else m)
    have h3 := h2 _ List.mem_cons_self
    refine ⟨?_, fun y hy => ?_⟩
    · show minI _ xs ∈ _
      rcases List.mem_cons.mp h1 with e | e
      · rw [e]; split <;> simp
      · exact List.mem_cons_of_mem _ (List.mem_cons_of_mem _ e)
    · show minI _ xs ≤ y
      rcases List.mem_cons.mp hy with rfl | hy
      · split at h3 <;> rename_i c <;> simp only [c, if_true, if_false] <;> omega
      · rcases List.mem_cons.mp hy with rfl | hy
        · split at h3 <;> rename_i c <;> simp only [c, if_true, if_false] <;> omega
        · exact h2 y (List.mem_cons_of_mem _ hy)
theorem max_list {ns : List Int} {x : Int} {Q : QD} (h : Q (.int (maxI x ns))) : biR .max [.list ((x :: ns).map PyData.int)] Q := by
  refine ⟨x :: ns, ?_, by simp, fun m hm hb => ?_⟩
  · exact ints_back _
  · obtain ⟨h1, h2⟩ := maxI_is ns x
    have e : m = maxI x ns := Int.le_antisymm (h2 m hm) (hb _ h1)
    rw [e]; exact h
where ints_back : ∀ ns : List Int, ints? (ns.map PyData.int) = some ns
  | [] => rfl
  | n :: ns => by show (ints? (ns.map PyData.int)).map _ = _; rw [ints_back ns]; rfl
theorem ints_back : ∀ ns : List Int, ints? (ns.map PyData.int) = some ns := max_list.ints_back
theorem min_list {ns : List Int} {x : Int} {Q : QD} (h : Q (.int (minI x ns))) : biR .min [.list ((x :: ns).map PyData.int)] Q := by
  refine ⟨x :: ns, ints_back _, by simp, fun m hm hb => ?_⟩
  obtain ⟨h1, h2⟩ := minI_is ns x
  have e : m = minI x ns := Int.le_antisymm (hb _ h1) (h2 m hm)
  rw [e]; exact h
def biX (f : Bi) (vs : List D) : Option D := match f, vs with
  | .len, [.list ds] => some (.int ds.length)
  | .len, [.tuple ds] => some (.int ds.length)
  | .len, [.dict ds] => some (.int ds.length)
  | .abs, [.int i] => some (.int (if i < 0 then -i else i))
  | .int, [.int i] => some (.int i)
  | .int, [.bool b] => some (.int (if b then 1 else 0))
  | .max, [.int i, .int j] => some (.int (if j > i then j else i))
  | .min, [.int i, .int j] => some (.int (if j < i then j else i))
  | .max, [.list ds] => match ints? ds with
    | some (x :: ns) => some (.int (maxI x ns))
    | _ => none
  | .min, [.list ds] => match ints? ds with
    | some (x :: ns) => some (.int (minI x ns))
    | _ => none
  | .tuple, [.list ds] => some (.tuple ds)
  | .tuple, [.tuple ds] => some (.tuple ds)
  | .list, [.list ds] => some (.list ds)
  | .list, [.tuple ds] => some (.list ds)
  | .any, [.list ds] => (bools? ds).map fun bs => .bool (bs.any id)
  | .all, [.list ds] => (bools? ds).map fun bs => .bool (bs.all id)
  | .sum, [.list ds] => (ints? ds).map fun ns => .int ns.sum
  | .sorted, [.list ds] => match ints? ds with
    | some ns => some (.list ((isort leI ns).map .int))
    | none => (prs? ds).map fun ps => .list ((isort leP2 ps).map prD)
  | .divmod, [.int i, .int j] => if 0 < j ∧ j < 1073741824 then some (.tuple [.int (i / j), .int (i % j)]) else none
  | .lrng1, [.int j] => if j ≤ 4096 ∧ -4096 ≤ j then some (.list (upto 0 j.toNat)) else none
  | .lrng2, [.int i, .int j] => if -(2 ^ 60) ≤ i ∧ i < 2 ^ 60 ∧ j - i ≤ 4096 ∧ -4096 ≤ j - i then some (.list (upto i (j - i).toNat)) else none
  | _, _ => none
theorem biX_ok {f : Bi} {vs : List D} {d : D} {Q : QD} (h : biX f vs = some d) (q : Q d) : biR f vs Q := by
  unfold biX at h
  split at h
  · cases h; exact q
  · cases h; exact q
  · cases h; exact q
  · cases h; exact q
  · cases h; exact q
  · cases h; exact q
  · cases h; exact q
  · cases h; exact q
  · split at h
    · rename_i e; cases h; rw [ints_map e]; exact max_list q
    · cases h
  · split at h
    · rename_i e; cases h; rw [ints_map e]; exact min_list q
    · cases h
  · cases h; exact q
  · cases h; exact q
  · cases h; exact q
  · cases h; exact q
  · obtain ⟨bs, e, rfl⟩ := Option.map_eq_some_iff.mp h; exact ⟨bs, e, q⟩
  · obtain ⟨bs, e, rfl⟩ := Option.map_eq_some_iff.mp h; exact ⟨bs, e, q⟩
  · obtain ⟨bs, e, rfl⟩ := Option.map_eq_some_iff.mp h; exact ⟨bs, e, q⟩
  · split at h
    · rename_i e; cases h; rw [ints_map e]; exact sorted_ints q
    · obtain ⟨ps, e, rfl⟩ := Option.map_eq_some_iff.mp h
      rw [prs_eq e]
      exact sorted_prs (by rw [msort_prs]; exact q)
  · split at h
    · cases h; exact ⟨by assumption, q⟩
    · cases h
  · split at h
    · rename_i c
      cases h
      exact ⟨⟨by omega, by omega, few_le (by unfold few; omega)⟩, q⟩
    · cases h
  · split at h
    · rename_i c
      cases h
      exact ⟨⟨by omega, by omega, by omega, by omega, by omega⟩, q⟩
    · cases h
  · cases h
def ixX (x i : D) : Option D := match x, i with
  | .list ds, .int j => L2.atI ds j
  | .tuple ds, .int j => L2.atI ds j
  | .dict ds, .int j => L2.atI (ds.map (·.2)) j
  | _, _ => none
theorem ixX_ok {x i d : D} {Q : QD} (h : ixX x i = some d) (q : Q d) : ixR x i Q := by
  unfold ixX at h
  split at h <;> first | exact ⟨d, h, q⟩ | cases h
def slX (x : D) (lo hi : Option Int) : Option D := match x with
  | .list ds => some (.list (cut ds lo hi))
  | .tuple ds => some (.tuple (cut ds lo hi))
  | _ => none
theorem slX_ok {x d : D} {lo hi : Option Int} {Q : QD} (h : slX x lo hi = some d) (q : Q d) : slR x lo hi Q := by
  unfold slX at h
  split at h <;> cases h <;> exact q
def revX (x : D) : Option D := match x with
  | .list ds => some (.list ds.reverse)
  | .tuple ds => some (.tuple ds.reverse)
  | _ => none
theorem revX_ok {x d : D} {Q : QD} (h : revX x = some d) (q : Q d) : revR x Q := by
  unfold revX at h
  split at h <;> cases h <;> exact q
def memX (x s : D) : Option Bool := match x, s with
  | x, .list ds => if SeqAt.shaped x = true ∧ SeqAt.shaped (.list ds) = true then some (ds.any fun d => PyData.eqv d x) else none
  | x, .tuple ds => if SeqAt.shaped x = true ∧ SeqAt.shaped (.tuple ds) = true then some (ds.any fun d => PyData.eqv d x) else none
  | _, _ => none
theorem memX_ok {x s : D} {b : Bool} {Q : Bool → Prop} (h : memX x s = some b) (q : Q b) : memR x s Q := by
  unfold memX at h
  split at h
  · split at h
    · cases h; exact ⟨by assumption, q⟩
    · cases h
  · split at h
    · cases h; exact ⟨by assumption, q⟩
    · cases h
  · cases h
def itX (k : IK) (vs : List D) : Option (List D) := match k, vs with
  | .val, [.list ds] => some ds
  | .val, [.tuple ds] => some ds
  | .val, [.dict kvs] => some (kvs.map (·.2))
  | .rng1, [.int j] => if j ≤ 4096 ∧ -4096 ≤ j then some (upto 0 j.toNat) else none
  | .rng2, [.int i, .int j] => if -(2 ^ 60) ≤ i ∧ i < 2 ^ 60 ∧ j - i ≤ 4096 ∧ -4096 ≤ j - i then some (upto i (j - i).toNat) else none
  | .enum, [.list ds] => some (enumF 0 ds)
  | .enum, [.tuple ds] => some (enumF 0 ds)
  | _, _ => none
theorem itX_ok {k : IK} {vs ds : List D} {Q : List D → Prop} (h : itX k vs = some ds) (q : Q ds) : itR k vs Q := by
  unfold itX at h
  split at h
  · cases h; exact q
  · cases h; exact q
  · cases h; exact q
  · split at h
    · cases h; exact ⟨⟨by omega, by omega⟩, q⟩
    · cases h
  · split at h
    · cases h; exact ⟨⟨by omega, by omega, by omega, by omega⟩, q⟩
    · cases h
  · cases h; exact q
  · cases h; exact q
  · cases h
def tgX (t : Tg) (d : D) (ρ : Env) : Option Env := match t with
  | .nm i => some (ρ.set i (.va d))
  | .tp is => match d with
    | .tuple ds => setL is ds ρ
    | _ => none
theorem tgX_ok {t : Tg} {d : D} {ρ ρ' : Env} {Q : Env → Prop} (h : tgX t d ρ = some ρ') (q : Q ρ') : tgR t d ρ Q := by
  cases t with
  | nm i => cases h; exact q
  | tp is =>
    cases d <;> first | (cases h; done) | skip
    have h : setL is _ ρ = some ρ' := h
    show (match setL is _ ρ with
      | some ρ' => Q ρ'
      | none => False)
    rw [h]; exact q
end Uq

set_option maxHeartbeats 2000000
/-! Plain side, part h: the run of expressions, statements, functions. -/
namespace Uq
open PySem
abbrev Call := Nat → List D → Mz D
/-- a comprehension's turns -/
def lcX (tst : Env → Option Bool) (el : Env → Option D) (t : Tg) (ρ : Env) : List D → Option (List D)
  | [] => some []
  | d :: ds => match tgX t d ρ with
    | some ρ' => match tst ρ' with
      | some true => match el ρ' with
        | some v => match lcX tst el t ρ ds with
          | some vs => some (v :: vs)
          | none => none
        | none => none
      | some false => lcX tst el t ρ ds
      | none => none
    | none => none
def dqX (o : Dq) (kvs : List (List Int × D)) (ns : List Int) (xs : List D) : Option D := match o with
  | .mem n => some (.bool ((look kvs ns).isSome != n))
  | .get => look kvs ns
  | .getd => match xs with
    | [x] => if noL x = true then some ((look kvs ns).getD x) else none
    | _ => none
def oz {α : Type} (x : Option α) : Mz α := x.map .ok
def okOf (x : Mz D) : Option D := match x with
  | some (.ok d) => some d
  | _ => none
def optI (d : D) : Mz (Option Int) := match d with
  | .int i => some (.ok (some i))
  | _ => none
mutual
def xE (V : Call) (sub : Nat → Nat → Bool) (flds : Nat → List Str) (c : C) (ρ : Env) : Mz D := match c, ρ with
  | .var i, ρ => match ρ[i]? with
    | some (.va d) => some (.ok d)
    | some (.ol ds) => some (.ok (.list ds))
    | some (.nl dss) => some (.ok (.list (dss.map .list)))
    | _ => none
  | .non, _ => some (.ok .none)
  | .bl b, _ => some (.ok (.bool b))
  | .int i, _ => some (.ok (.int i))
  | .str x, _ => some (.ok (.str x))
  | .bin o a b, ρ => bz (xE V sub flds a ρ) fun x => bz (xE V sub flds b ρ) fun y => oz (binX o x y)
  | .neg a, ρ => bz (xE V sub flds a ρ) fun x => match x with
    | .int i => some (.ok (.int (-i)))
    | _ => none
  | .not a, ρ => bz (xE V sub flds a ρ) fun x => match truX x with
    | some t => some (.ok (.bool (!t)))
    | none => none
  | .and a b, ρ => bz (xE V sub flds a ρ) fun x => match truX x with
    | some true => xE V sub flds b ρ
    | some false => some (.ok x)
    | none => none
  | .or a b, ρ => bz (xE V sub flds a ρ) fun x => match truX x with
    | some true => some (.ok x)
    | some false => xE V sub flds b ρ
    | none => none
  | .cmp o a b, ρ => bz (xE V sub flds a ρ) fun x => bz (xE V sub flds b ρ) fun y => match cmpX o x y with
    | some t => some (.ok (.bool t))
    | none => none
  | .chn o o' a b c, ρ => bz (xE V sub flds a ρ) fun x => bz (xE V sub flds b ρ) fun y => match cmpX o x y with
    | some true => bz (xE V sub flds c ρ) fun u => match cmpX o' y u with
      | some t => some (.ok (.bool t))
      | none => none
    | some false => some (.ok (.bool false))
    | none => none
  | .isN n a, ρ => bz (xE V sub flds a ρ) fun x => some (.ok (.bool (isNon x != n)))
  | .isB n b a, ρ => bz (xE V sub flds a ρ) fun x => some (.ok (.bool (isBv b x != n)))
  | .mem n a b, ρ => bz (xE V sub flds a ρ) fun x => bz (xE V sub flds b ρ) fun y => match memX x y with
    | some t => some (.ok (.bool (t != n)))
    | none => none
  | .ite c a b, ρ => bz (xE V sub flds c ρ) fun x => match truX x with
    | some true => xE V sub flds a ρ
    | some false => xE V sub flds b ρ
    | none => none
  | .tup es, ρ => bz (xEs V sub flds es ρ) fun vs => some (.ok (.tuple vs))
  | .lst es, ρ => bz (xEs V sub flds es ρ) fun vs => some (.ok (.list vs))
  | .ix a b, ρ => bz (xE V sub flds a ρ) fun x => bz (xE V sub flds b ρ) fun y => oz (ixX x y)
  | .sl a b c, ρ => bz (xE V sub flds a ρ) fun x => bz (if isNonC b = true then some (.ok none) else bz (xE V sub flds b ρ) optI) fun lo => bz (if isNonC c = true then some (.ok none) else bz (xE V sub flds c ρ) optI) fun hi => oz (slX x lo hi)
  | .rev a, ρ => bz (xE V sub flds a ρ) fun x => oz (revX x)
  | .call f pm es, ρ => bz (xEs V sub flds es ρ) fun vs => V f (pmL pm vs)
  | .callv f es, ρ => bz (xEs V sub flds es ρ) fun vs => V f [.tuple vs]
  | .bi f es, ρ => bz (xEs V sub flds es ρ) fun vs => oz (biX f vs)
  | .isi a ts, ρ => bz (xE V sub flds a ρ) fun x => if opq x = false then some (.ok (.bool (ts.any fun t => isTy t x))) else none
  | .lc e t k es cd, ρ => bz (xEs V sub flds es ρ) fun vs => match itX k vs with
    | some ds => if ds.length ≤ few then oz ((lcX (fun ρ' => xTs V sub flds cd ρ') (fun ρ' => okOf (xE V sub flds e ρ')) t (kil (tgI t) (frzIt k es ρ)) ds).map .list) else none
    | none => none
  | .xf i f, ρ => match ρ[i]? with
    | some (.xc c fs) => oz (((flds c).zip fs).reverse.lookup f)
    | _ => none
  | .xis i c, ρ => match ρ[i]? with
    | some (.xc c' _) => some (.ok (.bool (sub c' c)))
    | _ => none
  | .chn3 o o' o2 a b c d, ρ => bz (xE V sub flds a ρ) fun x => bz (xE V sub flds b ρ) fun y => match cmpX o x y with
    | some true => bz (xE V sub flds c ρ) fun u => match cmpX o' y u with
      | some true => bz (xE V sub flds d ρ) fun v => match cmpX o2 u v with
        | some t => some (.ok (.bool t))
        | none => none
      | some false => some (.ok (.bool false))
      | none => none
    | some false => some (.ok (.bool false))
    | none => none
  | .ixo i b, ρ => match ρ[i]? with
    | some (.va d) => bz (xE V sub flds b ρ) fun y => oz (ixX d y)
    | some (.ol ds) => bz (xE V sub flds b ρ) fun y => oz (ixX (.list ds) y)
    | _ => none
  | .ssc e t k es, ρ => bz (xEs V sub flds es ρ) fun vs => match itX k vs with
    | some ds => match lcX (fun _ => some true) (fun ρ' => okOf (xE V sub flds e ρ')) t (kil (tgI t) (frzIt k es ρ)) ds with
      | some us => match prs? us with
        | some ps => if ps.length < 64 ∧ (ps.all fun p => decide (0 ≤ p.1 ∧ 0 ≤ p.2)) = true then some (.ok (.list ((line ps).map prD))) else none
        | none => none
      | none => none
    | none => none
  | .dq o t es i ds, ρ => match ρ[i]? with
    | some (.dc t' kvs) => if t' = t then bz (xEs V sub flds es ρ) fun vs => match ints? vs with
      | some ns => if t = false → vs.length = 1 then bz (match o with
          | .getd => xEs V sub flds ds ρ
          | _ => some (.ok [])) fun xs => oz (dqX o kvs ns xs) else none
      | none => none
      else none
    | _ => none
termination_by structural c
def xEs (V : Call) (sub : Nat → Nat → Bool) (flds : Nat → List Str) (cs : List C) (ρ : Env) : Mz (List D) := match cs, ρ with
  | [], _ => some (.ok [])
  | c :: cs, ρ => bz (xE V sub flds c ρ) fun v => bz (xEs V sub flds cs ρ) fun vs => some (.ok (v :: vs))
termination_by structural cs
def xTs (V : Call) (sub : Nat → Nat → Bool) (flds : Nat → List Str) (cs : List C) (ρ : Env) : Option Bool := match cs, ρ with
  | [], _ => some true
  | c :: cs, ρ => match xE V sub flds c ρ with
    | some (.ok d) => match truX d with
      | some true => xTs V sub flds cs ρ
      | some false => some false
      | none => none
    | _ => none
termination_by structural cs
end
end Uq

set_option maxHeartbeats 4000000
/-! Plain side, part i: what is run holds: expressions. -/
namespace Uq
open PySem
def okr {α : Type} (r : Rz α) (q : α → Prop) (E : Ex) : Prop := match r with
  | .ok a => q a
  | .ex c fs => E c fs
theorem bz_inv {α β : Type} {x : Mz α} {f : α → Mz β} {r : Rz β} (h : bz x f = some r) : (∃ a, x = some (.ok a) ∧ f a = some r) ∨ ∃ c fs, x = some (.ex c fs) ∧ r = .ex c fs := by
  unfold bz at h
  split at h
  · exact .inl ⟨_, rfl, h⟩
  · cases h; exact .inr ⟨_, _, rfl, rfl⟩
  · cases h
theorem st {α β : Type} {x : Mz α} {f : α → Mz β} {r : Rz β} {Q : β → Prop} {E : Ex} {w : (α → Prop) → Prop} {q : α → Prop} (h : bz x f = some r) (hr : okr r Q E) (hw : ∀ r', x = some r' → ∀ q, okr r' q E → w q) (k : ∀ a, f a = some r → q a) : w q := by
  rcases bz_inv h with ⟨a, e, h⟩ | ⟨c, fs, e, rfl⟩
  · exact hw _ e q (k a h)
  · exact hw _ e q hr
theorem oz_ok {α : Type} {x : Option α} {r : Rz α} (h : oz x = some r) : ∃ a, x = some a ∧ r = .ok a := by
  obtain ⟨a, e, rfl⟩ := Option.map_eq_some_iff.mp h
  exact ⟨a, e, rfl⟩
theorem okOf_ok {x : Mz D} {d : D} (h : okOf x = some d) : x = some (.ok d) := by
  unfold okOf at h
  split at h
  · cases h; rfl
  · cases h
/-- V tells what X.call lets -/
structure Says (X : Cl) (V : Call) (sub : Nat → Nat → Bool) (flds : Nat → List Str) : Prop where
  call : ∀ f vs r, V f vs = some r → ∀ Q E, okr r Q E → X.call f vs Q E
  sub : X.sub = sub
  flds : X.flds = flds
theorem lcX_ok {tst : Env → Option Bool} {el : Env → Option D} {t : Tg} {ρ : Env} {tstW : Env → (Bool → Prop) → Prop} {elW : Env → QD → Prop} (ht : ∀ ρ b, tst ρ = some b → ∀ q : Bool → Prop, q b → tstW ρ q) (he : ∀ ρ d, el ρ = some d → ∀ q : QD, q d → elW ρ q) :
    ∀ {ds vs acc : List D} {Q : QD}, lcX tst el t ρ ds = some vs → acc.length + ds.length ≤ few → Q (.list (acc ++ vs)) → lcW tstW elW t ρ ds acc Q
  | [], vs, acc, Q, h, _, q => by
    cases h
    rw [List.append_nil] at q
    exact q
  | d :: ds, vs, acc, Q, h, hl, q => by
    unfold lcX at h
    rw [List.length_cons] at hl
    split at h
    · rename_i ρ' e
      refine tgX_ok e ?_
      split at h
      · rename_i e2
        refine ht _ _ e2 _ ?_
        rw [if_pos rfl]
        split at h
        · rename_i v e3
          refine he _ _ e3 _ ⟨few_lt (by omega), ?_⟩
          split at h
          · rename_i us e4
            cases h
            exact lcX_ok ht he e4 (by simp; omega) (by simpa using q)
          · cases h
        · cases h
      · rename_i e2
        refine ht _ _ e2 _ ?_
        rw [if_neg (by simp)]
        exact lcX_ok ht he h (by omega) q
      · cases h
    · cases h
theorem ssX_ok {el : Env → Option D} {t : Tg} {ρ : Env} {elW : Env → QD → Prop} {B : Int} (he : ∀ ρ d, el ρ = some d → ∀ q : QD, q d → elW ρ q) : ∀ {ds us : List D} {ps : List Pr2} {rows : List (List Int)} {Q : List (List Int) → Prop},
    lcX (fun _ => some true) el t ρ ds = some us → prs? us = some ps → (∀ p ∈ ps, 0 ≤ p.1 ∧ 0 ≤ p.2 ∧ p.1 < B ∧ p.2 < B) → rows.length + ps.length < 64 → Q (rows ++ ps.map rowP) → ssW elW t ρ 2 B ds rows Q
  | [], us, ps, rows, Q, h, hp, _, _, q => by
    cases h
    cases hp
    rw [List.map_nil, List.append_nil] at q
    exact q
  | d :: ds, us, ps, rows, Q, h, hp, hB, hl, q => by
    unfold lcX at h
    split at h
    · rename_i ρ' e
      refine tgX_ok e ?_
      simp only at h
      split at h
      · rename_i v e3
        split at h
        · rename_i vs e4
          cases h
          unfold prs? at hp
          split at hp
          · rename_i e5; cases e5
          · rename_i a b ds' e5
            cases e5
            obtain ⟨qs, hp2, rfl⟩ := Option.map_eq_some_iff.mp hp
            obtain ⟨b0, b1, b2, b3⟩ := hB _ List.mem_cons_self
            rw [List.length_cons] at hl
            refine he _ _ e3 _ ⟨[a, b], rfl, rfl, fun x hx => ?_, by omega, ?_⟩
            · simp only [List.mem_cons, List.not_mem_nil, or_false] at hx
              rcases hx with rfl | rfl <;> constructor <;> assumption
            · exact ssX_ok he e4 hp2 (fun p hp => hB p (List.mem_cons_of_mem _ hp)) (by simp; omega) (by simpa [rowP] using q)
          · cases hp
        · cases h
      · cases h
    · cases h
mutual
theorem xE_ok {X : Cl} {V : Call} {sub : Nat → Nat → Bool} {flds : Nat → List Str} (S : Says X V sub flds) : ∀ (c : C) {ρ : Env} {r : Rz D} {Q : QD} {E : Ex}, xE V sub flds c ρ = some r → okr r Q E → wE X c ρ Q E
  | .var i, ρ, r, Q, E, h, hr => by
    unfold xE at h
    unfold wE
    split at h <;> rename_i e <;> first | (cases h; done) | (cases h; rw [e]; exact hr) | (cases h; exact hr)
  | .non, ρ, r, Q, E, h, hr => by unfold xE at h; cases h; exact hr
  | .bl b, ρ, r, Q, E, h, hr => by unfold xE at h; cases h; exact hr
  | .int i, ρ, r, Q, E, h, hr => by unfold xE at h; cases h; exact hr
  | .str x, ρ, r, Q, E, h, hr => by unfold xE at h; cases h; exact hr
  | .bin o a b, ρ, r, Q, E, h, hr => by
    unfold xE at h
    refine st (w := fun q => wE X a ρ q E) h hr (fun r' e q => xE_ok S a e) fun x h => st (w := fun q => wE X b ρ q E) h hr (fun r' e q => xE_ok S b e) fun y h => ?_
    obtain ⟨d, e, rfl⟩ := oz_ok h
    exact binX_ok e hr
  | .neg a, ρ, r, Q, E, h, hr => by
    unfold xE at h
    refine st (w := fun q => wE X a ρ q E) h hr (fun r' e q => xE_ok S a e) fun x h => ?_
    cases x <;> first | (cases h; done) | (cases h; exact hr)
  | .not a, ρ, r, Q, E, h, hr => by
    unfold xE at h
    refine st (w := fun q => wE X a ρ q E) h hr (fun r' e q => xE_ok S a e) fun x h => ?_
    split at h
    · rename_i t e; cases h; exact truX_ok e hr
    · cases h
  | .and a b, ρ, r, Q, E, h, hr => by
    unfold xE at h
    refine st (w := fun q => wE X a ρ q E) h hr (fun r' e q => xE_ok S a e) fun x h => ?_
    split at h
    · rename_i e; refine truX_ok e ?_; rw [if_pos rfl]; exact xE_ok S b h hr
    · rename_i e; cases h; refine truX_ok e ?_; rw [if_neg (by simp)]; exact hr
    · cases h
  | .or a b, ρ, r, Q, E, h, hr => by
    unfold xE at h
    refine st (w := fun q => wE X a ρ q E) h hr (fun r' e q => xE_ok S a e) fun x h => ?_
    split at h
    · rename_i e; cases h; refine truX_ok e ?_; rw [if_pos rfl]; exact hr
    · rename_i e; refine truX_ok e ?_; rw [if_neg (by simp)]; exact xE_ok S b h hr
    · cases h
  | .cmp o a b, ρ, r, Q, E, h, hr => by
    unfold xE at h
    refine st (w := fun q => wE X a ρ q E) h hr (fun r' e q => xE_ok S a e) fun x h => st (w := fun q => wE X b ρ q E) h hr (fun r' e q => xE_ok S b e) fun y h => ?_
    split at h
    · rename_i t e; cases h; exact cmpX_ok e hr
    · cases h
  | .chn o o' a b c, ρ, r, Q, E, h, hr => by
    unfold xE at h
    refine st (w := fun q => wE X a ρ q E) h hr (fun r' e q => xE_ok S a e) fun x h => st (w := fun q => wE X b ρ q E) h hr (fun r' e q => xE_ok S b e) fun y h => ?_
    split at h
    · rename_i e
      refine cmpX_ok e ?_
      show (if true = true then _ else _)
      rw [if_pos rfl]
      refine st (w := fun q => wE X c ρ q E) h hr (fun r' e q => xE_ok S c e) fun u h => ?_
      split at h
      · rename_i t e; cases h; exact cmpX_ok e hr
      · cases h
    · rename_i e
      cases h
      refine cmpX_ok e ?_
      show (if false = true then _ else _)
      rw [if_neg (by simp)]
      exact hr
    · cases h
  | .isN n a, ρ, r, Q, E, h, hr => by
    unfold xE at h
    refine st (w := fun q => wE X a ρ q E) h hr (fun r' e q => xE_ok S a e) fun x h => ?_
    cases h; exact hr
  | .isB n b a, ρ, r, Q, E, h, hr => by
    unfold xE at h
    refine st (w := fun q => wE X a ρ q E) h hr (fun r' e q => xE_ok S a e) fun x h => ?_
    cases h; exact hr
  | .mem n a b, ρ, r, Q, E, h, hr => by
    unfold xE at h
    refine st (w := fun q => wE X a ρ q E) h hr (fun r' e q => xE_ok S a e) fun x h => st (w := fun q => wE X b ρ q E) h hr (fun r' e q => xE_ok S b e) fun y h => ?_
    split at h
    · rename_i t e; cases h; exact memX_ok e hr
    · cases h
  | .ite c a b, ρ, r, Q, E, h, hr => by
    unfold xE at h
    refine st (w := fun q => wE X c ρ q E) h hr (fun r' e q => xE_ok S c e) fun x h => ?_
    split at h
    · rename_i e; refine truX_ok e ?_; rw [if_pos rfl]; exact xE_ok S a h hr
    · rename_i e; refine truX_ok e ?_; rw [if_neg (by simp)]; exact xE_ok S b h hr
    · cases h
  | .tup es, ρ, r, Q, E, h, hr => by
    unfold xE at h
    refine st (w := fun q => wEs X es ρ q E) h hr (fun r' e q => xEs_ok S es e) fun x h => ?_
    cases h; exact hr
  | .lst es, ρ, r, Q, E, h, hr => by
    unfold xE at h
    refine st (w := fun q => wEs X es ρ q E) h hr (fun r' e q => xEs_ok S es e) fun x h => ?_
    cases h; exact hr
  | .ix a b, ρ, r, Q, E, h, hr => by
    unfold xE at h
    refine st (w := fun q => wE X a ρ q E) h hr (fun r' e q => xE_ok S a e) fun x h => st (w := fun q => wE X b ρ q E) h hr (fun r' e q => xE_ok S b e) fun y h => ?_
    obtain ⟨d, e, rfl⟩ := oz_ok h
    exact ixX_ok e hr
  | .sl a b c, ρ, r, Q, E, h, hr => by
    unfold xE at h
    have opt : ∀ (c : C), (∀ {r : Rz D} {Q : QD} {E : Ex}, xE V sub flds c ρ = some r → okr r Q E → wE X c ρ Q E) → ∀ r', (if isNonC c = true then some (.ok none) else bz (xE V sub flds c ρ) optI) = some r' → ∀ q : Option Int → Prop, okr r' q E → wOpt (isNonC c) (fun k => wE X c ρ k E) q := fun c ih r' h q hq => by
      unfold wOpt
      split at h
      · rename_i z; rw [if_pos z]; cases h; exact hq
      · rename_i z
        rw [if_neg z]
        refine st (w := fun q => wE X c ρ q E) h hq (fun r' e q => ih e) fun d h => ?_
        unfold optI at h
        split at h
        · cases h; exact hq
        · cases h
    refine st (w := fun q => wE X a ρ q E) h hr (fun r' e q => xE_ok S a e) fun x h => st (w := fun q => wOpt (isNonC b) (fun k => wE X b ρ k E) q) h hr (opt b fun h => xE_ok S b h) fun lo h => st (w := fun q => wOpt (isNonC c) (fun k => wE X c ρ k E) q) h hr (opt c fun h => xE_ok S c h) fun hi h => ?_
    obtain ⟨d, e, rfl⟩ := oz_ok h
    exact slX_ok e hr
  | .rev a, ρ, r, Q, E, h, hr => by
    unfold xE at h
    refine st (w := fun q => wE X a ρ q E) h hr (fun r' e q => xE_ok S a e) fun x h => ?_
    obtain ⟨d, e, rfl⟩ := oz_ok h
    exact revX_ok e hr
  | .call f pm es, ρ, r, Q, E, h, hr => by
    unfold xE at h
    exact st (w := fun q => wEs X es ρ q E) h hr (fun r' e q => xEs_ok S es e) fun vs h => S.call _ _ _ h _ _ hr
  | .callv f es, ρ, r, Q, E, h, hr => by
    unfold xE at h
    exact st (w := fun q => wEs X es ρ q E) h hr (fun r' e q => xEs_ok S es e) fun vs h => S.call _ _ _ h _ _ hr
  | .bi f es, ρ, r, Q, E, h, hr => by
    unfold xE at h
    refine st (w := fun q => wEs X es ρ q E) h hr (fun r' e q => xEs_ok S es e) fun vs h => ?_
    obtain ⟨d, e, rfl⟩ := oz_ok h
    exact biX_ok e hr
  | .isi a ts, ρ, r, Q, E, h, hr => by
    unfold xE at h
    refine st (w := fun q => wE X a ρ q E) h hr (fun r' e q => xE_ok S a e) fun x h => ?_
    split at h
    · cases h; exact ⟨by assumption, hr⟩
    · cases h
  | .lc e t k es cd, ρ, r, Q, E, h, hr => by
    unfold xE at h
    refine st (w := fun q => wEs X es ρ q E) h hr (fun r' e q => xEs_ok S es e) fun vs h => ?_
    split at h
    · rename_i ds e1
      refine itX_ok e1 ?_
      split at h
      · rename_i hl
        obtain ⟨d, e2, rfl⟩ := oz_ok h
        obtain ⟨us, e3, rfl⟩ := Option.map_eq_some_iff.mp e2
        exact lcX_ok (acc := []) (tstW := fun ρ' q => wTs X cd ρ' q) (elW := fun ρ' q => wE X e ρ' q fun _ _ => False) (fun ρ1 b h q hq => xTs_ok S cd h hq) (fun ρ1 d h q hq => xE_ok S e (okOf_ok h) hq) e3 (by simpa using hl) (by simpa [okr] using hr)
      · cases h
    · cases h
  | .xf i f, ρ, r, Q, E, h, hr => by
    unfold xE at h
    unfold wE
    split at h
    · rename_i c fs e
      obtain ⟨d, e2, rfl⟩ := oz_ok h
      try rw [e]
      exact ⟨d, by rw [S.flds]; exact e2, hr⟩
    · cases h
  | .xis i c, ρ, r, Q, E, h, hr => by
    unfold xE at h
    unfold wE
    split at h
    · rename_i c' fs e
      cases h
      try rw [e]
      show Q (.bool (X.sub c' c))
      rw [S.sub]
      exact hr
    · cases h
  | .chn3 o o' o2 a b c d, ρ, r, Q, E, h, hr => by
    unfold xE at h
    refine st (w := fun q => wE X a ρ q E) h hr (fun r' e q => xE_ok S a e) fun x h => st (w := fun q => wE X b ρ q E) h hr (fun r' e q => xE_ok S b e) fun y h => ?_
    split at h
    · rename_i e
      refine cmpX_ok e ?_
      show (if true = true then _ else _)
      rw [if_pos rfl]
      refine st (w := fun q => wE X c ρ q E) h hr (fun r' e q => xE_ok S c e) fun u h => ?_
      split at h
      · rename_i e
        refine cmpX_ok e ?_
        show (if true = true then _ else _)
        rw [if_pos rfl]
        refine st (w := fun q => wE X d ρ q E) h hr (fun r' e q => xE_ok S d e) fun v h => ?_
        split at h
        · rename_i t e; cases h; exact cmpX_ok e hr
        · cases h
      · rename_i e
        cases h
        refine cmpX_ok e ?_
        show (if false = true then _ else _)
        rw [if_neg (by simp)]
        exact hr
      · cases h
    · rename_i e
      cases h
      refine cmpX_ok e ?_
      show (if false = true then _ else _)
      rw [if_neg (by simp)]
      exact hr
    · cases h
  | .ixo i b, ρ, r, Q, E, h, hr => by
    unfold xE at h
    unfold wE
    split at h
    · rename_i d e
      try rw [e]
      refine st (w := fun q => wE X b ρ q E) h hr (fun r' e q => xE_ok S b e) fun y h => ?_
      obtain ⟨d, e, rfl⟩ := oz_ok h
      exact ixX_ok e hr
    · rename_i d e
      try rw [e]
      refine st (w := fun q => wE X b ρ q E) h hr (fun r' e q => xE_ok S b e) fun y h => ?_
      obtain ⟨d, e, rfl⟩ := oz_ok h
      exact ixX_ok e hr
    · cases h
  | .ssc e t k es, ρ, r, Q, E, h, hr => by
    unfold xE at h
    refine st (w := fun q => wEs X es ρ q E) h hr (fun r' e q => xEs_ok S es e) fun vs h => ?_
    split at h
    · rename_i ds e1
      refine itX_ok e1 ?_
      split at h
      · rename_i us e2
        split at h
        · rename_i ps e3
          split at h
          · rename_i hc
            cases h
            obtain ⟨hl, hp⟩ := hc
            have hp : ∀ p ∈ ps, 0 ≤ p.1 ∧ 0 ≤ p.2 := fun p hm => by
              have := List.all_eq_true.mp hp p hm
              exact of_decide_eq_true this
            obtain ⟨B, hB, hb⟩ := bound ps
            refine ⟨2, B, by decide, ssX_ok (rows := []) (elW := fun ρ' q => wE X e ρ' q fun _ _ => False) (fun ρ1 d h q hq => xE_ok S e (okOf_ok h) hq) e2 e3 (fun p hm => ⟨(hp p hm).1, (hp p hm).2, hb p hm⟩) (by simpa using hl) fun out hnd hmem hpw => ?_⟩
            rw [out_line hp hb hnd (by simpa using hmem) hpw]
            exact hr
          · cases h
        · cases h
      · cases h
    · cases h
  | .dq o t es i ds, ρ, r, Q, E, h, hr => by
    unfold xE at h
    unfold wE
    split at h
    · rename_i t' kvs e1
      try rw [e1]
      split at h
      · rename_i et
        refine ⟨et, ?_⟩
        refine st (w := fun q => wEs X es ρ q E) h hr (fun r' e q => xEs_ok S es e) fun vs h => ?_
        split at h
        · rename_i ns e2
          split at h
          · rename_i hl
            refine ⟨hl, ns, e2, ?_⟩
            cases o with
            | mem n =>
              have h : oz (dqX (.mem n) kvs ns []) = some r := h
              obtain ⟨d, e, rfl⟩ := oz_ok h
              cases e; exact hr
            | get =>
              have h : oz (dqX .get kvs ns []) = some r := h
              obtain ⟨d, e, rfl⟩ := oz_ok h
              exact ⟨d, e, hr⟩
            | getd =>
              refine st (w := fun q => wEs X ds ρ q E) h hr (fun r' e q => xEs_ok S ds e) fun xs h => ?_
              obtain ⟨d, e, rfl⟩ := oz_ok h
              unfold dqX at e
              match xs, e with
              | [x], e =>
                simp only at e
                split at e
                · cases e; exact ⟨by assumption, hr⟩
                · cases e
          · cases h
        · cases h
      · cases h
    · cases h
theorem xEs_ok {X : Cl} {V : Call} {sub : Nat → Nat → Bool} {flds : Nat → List Str} (S : Says X V sub flds) : ∀ (cs : List C) {ρ : Env} {r : Rz (List D)} {Q : List D → Prop} {E : Ex}, xEs V sub flds cs ρ = some r → okr r Q E → wEs X cs ρ Q E
  | [], ρ, r, Q, E, h, hr => by unfold xEs at h; cases h; exact hr
  | c :: cs, ρ, r, Q, E, h, hr => by
    unfold xEs at h
    refine st (w := fun q => wE X c ρ q E) h hr (fun r' e q => xE_ok S c e) fun x h => st (w := fun q => wEs X cs ρ q E) h hr (fun r' e q => xEs_ok S cs e) fun y h => ?_
    cases h; exact hr
theorem xTs_ok {X : Cl} {V : Call} {sub : Nat → Nat → Bool} {flds : Nat → List Str} (S : Says X V sub flds) : ∀ (cs : List C) {ρ : Env} {b : Bool} {Q : Bool → Prop}, xTs V sub flds cs ρ = some b → Q b → wTs X cs ρ Q
  | [], ρ, r, Q, h, hr => by unfold xTs at h; cases h; exact hr
  | c :: cs, ρ, r, Q, h, hr => by
    unfold xTs at h
    split at h
    · rename_i d e
      refine xE_ok S c e ?_
      show truR d fun t => if t = true then wTs X cs ρ Q else Q false
      split at h
      · rename_i e2; refine truX_ok e2 ?_; rw [if_pos rfl]; exact xTs_ok S cs h hr
      · rename_i e2; cases h; refine truX_ok e2 ?_; rw [if_neg (by simp)]; exact hr
      · cases h
    · cases h
end
end Uq

set_option maxHeartbeats 4000000
/-! Plain side, part j: statements and functions, run. -/
namespace Uq
open PySem
/-- how a statement ends -/
inductive Oc | nx (ρ : Env) | rt (d : D) | bk (ρ : Env) | ct (ρ : Env) | ex (c : Nat) (fs : List D) (ρ : Env)
def acc (o : Oc) (k : K) : Prop := match o with
  | .nx ρ => k.nx ρ
  | .rt d => k.rt d
  | .bk ρ => k.bk ρ
  | .ct ρ => k.ct ρ
  | .ex c fs ρ => k.ex c fs ρ
/-- behind an expression -/
def eo {α : Type} (x : Mz α) (ρ : Env) (f : α → Option Oc) : Option Oc := match x with
  | some (.ok a) => f a
  | some (.ex c fs) => some (.ex c fs ρ)
  | none => none
def frX (body : Env → Option Oc) (t : Tg) : List D → Env → Option Oc
  | [], ρ => some (.nx ρ)
  | d :: ds, ρ => match tgX t d ρ with
    | some ρ' => match body ρ' with
      | some (.nx ρ2) => frX body t ds ρ2
      | some (.ct ρ2) => frX body t ds ρ2
      | some (.bk ρ2) => some (.nx ρ2)
      | o => o
    | none => none
def whX (tst : Env → Mz Bool) (body : Env → Option Oc) : Nat → Env → Option Oc
  | 0, _ => none
  | n + 1, ρ => match tst ρ with
    | some (.ok true) => match body ρ with
      | some (.nx ρ2) => whX tst body n ρ2
      | some (.ct ρ2) => whX tst body n ρ2
      | some (.bk ρ2) => some (.nx ρ2)
      | o => o
    | some (.ok false) => some (.nx ρ)
    | some (.ex c fs) => some (.ex c fs ρ)
    | none => none
def nlX (el : Env → Option D) (t : Tg) (ρ : Env) : List D → Option (List (List D))
  | [] => some []
  | d :: ds => match tgX t d ρ with
    | some ρ' => match el ρ' with
      | some (.list xs) => if noLs xs = true then (nlX el t ρ ds).map (xs :: ·) else none
      | _ => none
    | none => none
def olAt (ρ : Env) (i : Nat) : Option (List D) := match ρ[i]? with
  | some (.ol ds) => some ds
  | _ => none
def nlAt (ρ : Env) (i : Nat) : Option (List (List D)) := match ρ[i]? with
  | some (.nl ds) => some ds
  | _ => none
def setX (is : List Nat) (d : D) (ρ : Env) : Option Oc := match d with
  | .tuple ds => (setL is ds ρ).map .nx
  | _ => none
/-- behind a try's suite -/
def clr (v : Nat) (o : Oc) : Option Oc := match o with
  | .nx ρ => some (.nx (ρ.set v .no))
  | .rt d => some (.rt d)
  | .bk ρ => some (.bk (ρ.set v .no))
  | .ct ρ => some (.ct (ρ.set v .no))
  | .ex _ _ _ => none
def noEx (o : Oc) : Option Oc := match o with
  | .ex _ _ _ => none
  | o => some o
section
variable (V : Call) (sub : Nat → Nat → Bool) (flds : Nat → List Str)
mutual
def xS (s : S) (ρ : Env) : Option Oc := match s, ρ with
  | .asg i e, ρ => eo (xE V sub flds e ρ) ρ fun d => some (.nx (asgn e i d ρ))
  | .unp is e, ρ => eo (xE V sub flds e ρ) ρ fun d => setX is d (shr e d ρ)
  | .par i j a b, ρ => eo (xE V sub flds a ρ) ρ fun x => eo (xE V sub flds b ρ) ρ fun y => some (.nx (((frzL (nms a ++ nms b) ρ).set i (.va x)).set j (.va y)))
  | .put i a e, ρ => eo (xE V sub flds e ρ) ρ fun d => match olAt (shr e d ρ) i with
    | some ds => eo (xE V sub flds a (shr e d ρ)) (shr e d ρ) fun y => match y with
      | .int j => match L2.ixN ds.length j with
        | some n => some (.nx ((shr e d ρ).set i (.ol (ds.set n d))))
        | none => none
      | _ => none
    | none => none
  | .app i e, ρ => if (olAt ρ i).isSome = true then eo (xE V sub flds e ρ) ρ fun d => match olAt (shr e d ρ) i with
      | some ds => if ds.length < few then some (.nx ((shr e d ρ).set i (.ol (ds ++ [d])))) else none
      | none => none
    else none
  | .ext i e, ρ => if (olAt ρ i).isSome = true then eo (xE V sub flds e ρ) ρ fun d => match d, olAt (shr e d ρ) i with
      | .list es, some ds => if ds.length + es.length ≤ few then some (.nx ((shr e d ρ).set i (.ol (ds ++ es)))) else none
      | _, _ => none
    else none
  | .pop i, ρ => match olAt ρ i with
    | some ds => if ds = [] then none else some (.nx (ρ.set i (.ol ds.dropLast)))
    | none => none
  | .popTo j i, ρ => match olAt ρ i with
    | some ds => match ds.getLast? with
      | some d => some (.nx ((ρ.set i (.ol ds.dropLast)).set j (.va d)))
      | none => none
    | none => none
  | .aug i o e, ρ => match ρ[i]? with
    | some (.va (.int a)) => eo (xE V sub flds e ρ) ρ fun y => match y with
      | .int b => match binX o (.int a) (.int b) with
        | some z => some (.nx (ρ.set i (.va z)))
        | none => none
      | _ => none
    | _ => none
  | .exp e, ρ => eo (xE V sub flds e ρ) ρ fun _ => some (.nx ρ)
  | .ret e, ρ => eo (xE V sub flds e ρ) ρ fun d => some (.rt d)
  | .retN, _ => some (.rt .none)
  | .ite c a b, ρ => eo (xE V sub flds c ρ) ρ fun x => match truX x with
    | some true => xSs a ρ
    | some false => xSs b ρ
    | none => none
  | .fr t ik es body, ρ => eo (xEs V sub flds es ρ) ρ fun vs => match itX ik vs with
    | some ds => frX (fun ρ => xSs body ρ) t ds (frzIt ik es ρ)
    | none => none
  | .wh c body, ρ => whX (fun ρ => bz (xE V sub flds c ρ) fun x => oz (truX x)) (fun ρ => xSs body ρ) 4096 ρ
  | .brk, ρ => some (.bk ρ)
  | .cnt, ρ => some (.ct ρ)
  | .pas, ρ => some (.nx ρ)
  | .rai c es, ρ => eo (xEs V sub flds es ρ) ρ fun vs => if noLs vs = true ∧ vs.length = (flds c).length then some (.ex c vs ρ) else none
  | .tri body hc hv hb, ρ => match xSs body ρ with
    | some (.ex c fs ρ') => xHs hb hc hv c fs ρ'
    | o => o
  | .kil is, ρ => some (.nx (kil is ρ))
  | .nnew i, ρ => some (.nx (ρ.set i (.nl [])))
  | .napp i, ρ => match nlAt ρ i with
    | some dss => if dss.length < few then some (.nx (ρ.set i (.nl (dss ++ [[]])))) else none
    | none => none
  | .nadd i a e, ρ => match nlAt ρ i with
    | some dss => eo (xE V sub flds a ρ) ρ fun y => match y with
      | .int j => match L2.ixN dss.length j with
        | some n => match dss[n]? with
          | some ds => if ds.length < few then eo (xE V sub flds e ρ) ρ fun d => if noL d = true then some (.nx (ρ.set i (.nl (dss.set n (ds ++ [d]))))) else none else none
          | none => none
        | none => none
      | _ => none
    | none => none
  | .nlc i e t kd es, ρ => if fresh e = true then eo (xEs V sub flds es ρ) ρ fun vs => match itX kd vs with
      | some ds => if ds.length ≤ few then match nlX (fun ρ' => okOf (xE V sub flds e ρ')) t (kil (tgI t) (frzIt kd es ρ)) ds with
          | some dss => some (.nx ((frzIt kd es ρ).set i (.nl dss)))
          | none => none
        else none
      | none => none
    else none
  | .nappE i e, ρ => if fresh e = true then match nlAt ρ i with
      | some dss => eo (xE V sub flds e ρ) ρ fun d => match d with
        | .list ds => if noLs ds = true ∧ dss.length < few then some (.nx (ρ.set i (.nl (dss ++ [ds])))) else none
        | _ => none
      | none => none
    else none
  | .dnew i t, ρ => some (.nx (ρ.set i (.dc t [])))
  | .dput i t es e, ρ => eo (xE V sub flds e ρ) ρ fun d => if noL d = true then match ρ[i]? with
      | some (.dc t' kvs) => if t' = t then eo (xEs V sub flds es ρ) ρ fun vs => match ints? vs with
          | some ns => if (t = false → vs.length = 1) ∧ kvs.length < few then some (.nx (ρ.set i (.dc t (putD kvs ns d)))) else none
          | none => none
        else none
      | _ => none
    else none
  | .popU is i, ρ => match olAt ρ i with
    | some ds => match ds.getLast? with
      | some d => setX is d (ρ.set i (.ol ds.dropLast))
      | none => none
    | none => none
  | .popA _ _, _ => none
termination_by structural s
def xSs (ss : List S) (ρ : Env) : Option Oc := match ss, ρ with
  | [], ρ => some (.nx ρ)
  | s :: ss, ρ => match xS s ρ with
    | some (.nx ρ') => xSs ss ρ'
    | o => o
termination_by structural ss
def xHs (hb : List (List S)) (hc : List Nat) (hv : List (Option Nat)) (c : Nat) (fs : List D) (ρ : Env) : Option Oc := match hb with
  | [] => some (.ex c fs ρ)
  | b :: bs => match hc, hv with
    | h :: hc', v :: hv' => if sub c h = true then (match v with
        | some v => match xSs b (ρ.set v (.xc c fs)) with
          | some o => clr v o
          | none => none
        | none => match xSs b ρ with
          | some o => noEx o
          | none => none)
      else xHs bs hc' hv' c fs ρ
    | _, _ => none
termination_by structural hb
end
end
/-- a function of the program, to a depth of calls -/
def xC (T : Nat → Option Fn) (sub : Nat → Nat → Bool) (flds : Nat → List Str) : Nat → Nat → List D → Mz D
  | 0, _, _ => none
  | n + 1, f, vs => match T f with
    | some fn => if vs.length = fn.np then match xSs (xC T sub flds n) sub flds fn.body (Uq.start fn vs) with
        | some (.nx _) => some (.ok .none)
        | some (.rt d) => some (.ok d)
        | some (.ex c fs _) => some (.ex c fs)
        | _ => none
      else none
    | none => none
end Uq

set_option maxHeartbeats 4000000
/-! Plain side, part k: what is run holds: statements, functions. -/
namespace Uq
open PySem
theorem ste {α : Type} {x : Mz α} {ρ : Env} {f : α → Option Oc} {o : Oc} {k : K} {w : (α → Prop) → Prop} {q : α → Prop} (h : eo x ρ f = some o) (hr : acc o k) (hw : ∀ r', x = some r' → ∀ q, okr r' q (fun c fs => k.ex c fs ρ) → w q) (g : ∀ a, f a = some o → q a) : w q := by
  unfold eo at h
  split at h
  · exact hw _ rfl q (g _ h)
  · cases h; exact hw _ rfl q hr
  · cases h
theorem frX_ok {body : Env → Option Oc} {bodyW : Env → K → Prop} {t : Tg} (hb : ∀ ρ o k, body ρ = some o → acc o k → bodyW ρ k) : ∀ {ds : List D} {ρ : Env} {o : Oc} {k : K}, frX body t ds ρ = some o → acc o k → frW bodyW t k ds ρ
  | [], ρ, o, k, h, hr => by cases h; exact hr
  | d :: ds, ρ, o, k, h, hr => by
    unfold frX at h
    split at h
    · rename_i ρ' e
      refine tgX_ok e ?_
      split at h
      · rename_i ρ2 e2; exact hb _ _ _ e2 (frX_ok hb h hr)
      · rename_i ρ2 e2; exact hb _ _ _ e2 (frX_ok hb h hr)
      · rename_i ρ2 e2; cases h; exact hb _ _ _ e2 hr
      · rename_i h1 h2 h3
        refine hb _ _ _ h ?_
        cases o with
        | nx ρ2 => exact absurd h (h1 ρ2)
        | ct ρ2 => exact absurd h (h2 ρ2)
        | bk ρ2 => exact absurd h (h3 ρ2)
        | rt d => exact hr
        | ex c fs ρ2 => exact hr
    · cases h
theorem whX_ok {tst : Env → Mz Bool} {tstW : Env → (Bool → Prop) → (Nat → List D → Env → Prop) → Prop} {body : Env → Option Oc} {bodyW : Env → K → Prop} (ht : ∀ ρ r q e, tst ρ = some r → okr r q (fun c fs => e c fs ρ) → tstW ρ q e) (hb : ∀ ρ o k, body ρ = some o → acc o k → bodyW ρ k) :
    ∀ {n : Nat} {ρ : Env} {o : Oc} {k : K}, whX tst body n ρ = some o → acc o k → whW tstW bodyW k n ρ
  | 0, ρ, o, k, h, hr => by cases h
  | n + 1, ρ, o, k, h, hr => by
    unfold whX at h
    split at h
    · rename_i e
      refine ht _ _ _ _ e ?_
      simp only [okr, if_true]
      split at h
      · rename_i ρ2 e2; exact hb _ _ _ e2 (whX_ok ht hb h hr)
      · rename_i ρ2 e2; exact hb _ _ _ e2 (whX_ok ht hb h hr)
      · rename_i ρ2 e2; cases h; exact hb _ _ _ e2 hr
      · rename_i h1 h2 h3
        refine hb _ _ _ h ?_
        cases o with
        | nx ρ2 => exact absurd h (h1 ρ2)
        | ct ρ2 => exact absurd h (h2 ρ2)
        | bk ρ2 => exact absurd h (h3 ρ2)
        | rt d => exact hr
        | ex c fs ρ2 => exact hr
    · rename_i e
      cases h
      refine ht _ _ _ _ e ?_
      simp only [okr, Bool.false_eq_true, if_false]
      exact hr
    · rename_i e
      cases h
      exact ht _ _ _ _ e hr
    · cases h
theorem nlX_ok {el : Env → Option D} {t : Tg} {ρ : Env} {elW : Env → QD → Prop} (he : ∀ ρ d, el ρ = some d → ∀ q : QD, q d → elW ρ q) : ∀ {ds : List D} {dss acc : List (List D)} {Q : List (List D) → Prop}, nlX el t ρ ds = some dss → acc.length + ds.length ≤ few → Q (acc ++ dss) → nlW elW t ρ ds acc Q
  | [], dss, acc, Q, h, _, q => by
    cases h
    rw [List.append_nil] at q
    exact q
  | d :: ds, dss, acc, Q, h, hl, q => by
    unfold nlX at h
    rw [List.length_cons] at hl
    split at h
    · rename_i ρ' e
      refine tgX_ok e ?_
      split at h
      · rename_i xs e2
        split at h
        · rename_i hn
          obtain ⟨us, e3, rfl⟩ := Option.map_eq_some_iff.mp h
          exact he _ _ e2 _ ⟨hn, few_lt (by omega), nlX_ok he e3 (by simp; omega) (by simpa using q)⟩
        · cases h
      · cases h
    · cases h
theorem olAt_ok {ρ : Env} {i : Nat} {ds : List D} (h : olAt ρ i = some ds) : ρ[i]? = some (.ol ds) := by
  unfold olAt at h
  split at h
  · rename_i e; cases h; exact e
  · cases h
theorem nlAt_ok {ρ : Env} {i : Nat} {ds : List (List D)} (h : nlAt ρ i = some ds) : ρ[i]? = some (.nl ds) := by
  unfold nlAt at h
  split at h
  · rename_i e; cases h; exact e
  · cases h
mutual
theorem xS_ok {X : Cl} {V : Call} {sub : Nat → Nat → Bool} {flds : Nat → List Str} (Y : Says X V sub flds) : ∀ (s : Uq.S) {ρ : Env} {o : Oc} {k : K}, xS V sub flds s ρ = some o → acc o k → wS X s ρ k
  | .asg i e, ρ, o, k, h, hr => by
    unfold xS at h
    refine ste (w := fun q => wE X e ρ q _) h hr (fun r' e1 q => xE_ok Y e e1) fun d h => ?_
    cases h; exact hr
  | .unp is e, ρ, o, k, h, hr => by
    unfold xS at h
    refine ste (w := fun q => wE X e ρ q _) h hr (fun r' e1 q => xE_ok Y e e1) fun d h => ?_
    unfold setX at h
    split at h
    · obtain ⟨ρ', e2, rfl⟩ := Option.map_eq_some_iff.mp h
      simp only [e2]
      exact hr
    · cases h
  | .par i j a b, ρ, o, k, h, hr => by
    unfold xS at h
    refine ste (w := fun q => wE X a ρ q _) h hr (fun r' e1 q => xE_ok Y a e1) fun x h => ste (w := fun q => wE X b ρ q _) h hr (fun r' e1 q => xE_ok Y b e1) fun y h => ?_
    cases h; exact hr
  | .put i a e, ρ, o, k, h, hr => by
    unfold xS at h
    refine ste (w := fun q => wE X e ρ q _) h hr (fun r' e1 q => xE_ok Y e e1) fun d h => ?_
    split at h
    · rename_i ds e2
      rw [olAt_ok e2]
      refine ste (w := fun q => wE X a (shr e d ρ) q _) h hr (fun r' e1 q => xE_ok Y a e1) fun y h => ?_
      cases y <;> first | (cases h; done) | skip
      simp only at h
      split at h
      · rename_i n e3; cases h; exact ⟨n, e3, hr⟩
      · cases h
    · cases h
  | .app i e, ρ, o, k, h, hr => by
    unfold xS at h
    split at h
    · rename_i h0
      obtain ⟨ds0, e0⟩ := Option.isSome_iff_exists.mp h0
      refine ⟨⟨ds0, olAt_ok e0⟩, ?_⟩
      refine ste (w := fun q => wE X e ρ q _) h hr (fun r' e1 q => xE_ok Y e e1) fun d h => ?_
      split at h
      · rename_i ds e2
        split at h
        · rename_i hl
          cases h
          simp only [olAt_ok e2]
          exact ⟨few_lt hl, hr⟩
        · cases h
      · cases h
    · cases h
  | .ext i e, ρ, o, k, h, hr => by
    unfold xS at h
    split at h
    · rename_i h0
      obtain ⟨ds0, e0⟩ := Option.isSome_iff_exists.mp h0
      refine ⟨⟨ds0, olAt_ok e0⟩, ?_⟩
      refine ste (w := fun q => wE X e ρ q _) h hr (fun r' e1 q => xE_ok Y e e1) fun d h => ?_
      split at h
      · rename_i es ds e2
        split at h
        · rename_i hl
          cases h
          simp only [olAt_ok e2]
          exact ⟨few_le hl, hr⟩
        · cases h
      · cases h
    · cases h
  | .pop i, ρ, o, k, h, hr => by
    unfold xS at h
    unfold wS
    split at h
    · rename_i ds e
      split at h
      · cases h
      · rename_i hn
        cases h
        simp only [olAt_ok e]
        exact ⟨hn, hr⟩
    · cases h
  | .popTo j i, ρ, o, k, h, hr => by
    unfold xS at h
    unfold wS
    split at h
    · rename_i ds e
      split at h
      · rename_i d e2
        cases h
        simp only [olAt_ok e]
        exact ⟨d, e2, hr⟩
      · cases h
    · cases h
  | .aug i op e, ρ, o, k, h, hr => by
    unfold xS at h
    unfold wS
    split at h
    · rename_i a e1
      try simp only [e1]
      refine ste (w := fun q => wE X e ρ q _) h hr (fun r' e1 q => xE_ok Y e e1) fun y h => ?_
      cases y <;> first | (cases h; done) | skip
      simp only at h
      split at h
      · rename_i z e2; cases h; exact binX_ok e2 hr
      · cases h
    · cases h
  | .exp e, ρ, o, k, h, hr => by
    unfold xS at h
    refine ste (w := fun q => wE X e ρ q _) h hr (fun r' e1 q => xE_ok Y e e1) fun d h => ?_
    cases h; exact hr
  | .ret e, ρ, o, k, h, hr => by
    unfold xS at h
    refine ste (w := fun q => wE X e ρ q _) h hr (fun r' e1 q => xE_ok Y e e1) fun d h => ?_
    cases h; exact hr
  | .retN, ρ, o, k, h, hr => by unfold xS at h; cases h; exact hr
  | .ite c a b, ρ, o, k, h, hr => by
    unfold xS at h
    refine ste (w := fun q => wE X c ρ q _) h hr (fun r' e1 q => xE_ok Y c e1) fun d h => ?_
    split at h
    · rename_i e; refine truX_ok e ?_; rw [if_pos rfl]; exact xSs_ok Y a h hr
    · rename_i e; refine truX_ok e ?_; rw [if_neg (by simp)]; exact xSs_ok Y b h hr
    · cases h
  | .fr t ik es body, ρ, o, k, h, hr => by
    unfold xS at h
    refine ste (w := fun q => wEs X es ρ q _) h hr (fun r' e1 q => xEs_ok Y es e1) fun vs h => ?_
    split at h
    · rename_i ds e; exact itX_ok e (frX_ok (bodyW := wSs X body) (fun ρ o k h hr => xSs_ok Y body h hr) h hr)
    · cases h
  | .wh c body, ρ, o, k, h, hr => by
    unfold xS at h
    refine ⟨4096, whX_ok (bodyW := wSs X body) (tstW := fun ρ q e => wT X c ρ q fun c fs => e c fs ρ) (fun ρ r q e h hr => ?_) (fun ρ o k h hr => xSs_ok Y body h hr) h hr⟩
    refine st (w := fun q => wE X c ρ q _) h hr (fun r' e1 q => xE_ok Y c e1) fun d h => ?_
    obtain ⟨b, e, rfl⟩ := oz_ok h
    exact truX_ok e hr
  | .brk, ρ, o, k, h, hr => by unfold xS at h; cases h; exact hr
  | .cnt, ρ, o, k, h, hr => by unfold xS at h; cases h; exact hr
  | .pas, ρ, o, k, h, hr => by unfold xS at h; cases h; exact hr
  | .rai c es, ρ, o, k, h, hr => by
    unfold xS at h
    refine ste (w := fun q => wEs X es ρ q _) h hr (fun r' e1 q => xEs_ok Y es e1) fun vs h => ?_
    split at h
    · rename_i hc; cases h; exact ⟨hc.1, by rw [Y.flds]; exact hc.2, hr⟩
    · cases h
  | .tri body hc hv hb, ρ, o, k, h, hr => by
    unfold xS at h
    split at h
    · rename_i c fs ρ' e
      exact xSs_ok Y body e (xHs_ok Y hb h hr)
    · rename_i hn
      refine xSs_ok Y body h ?_
      cases o with
      | ex c fs ρ' => exact absurd h (hn c fs ρ')
      | nx _ => exact hr
      | rt _ => exact hr
      | bk _ => exact hr
      | ct _ => exact hr
  | .kil is, ρ, o, k, h, hr => by unfold xS at h; cases h; exact hr
  | .nnew i, ρ, o, k, h, hr => by unfold xS at h; cases h; exact hr
  | .napp i, ρ, o, k, h, hr => by
    unfold xS at h
    unfold wS
    split at h
    · rename_i dss e
      split at h
      · rename_i hl
        cases h
        simp only [nlAt_ok e]
        exact ⟨few_lt hl, hr⟩
      · cases h
    · cases h
  | .nadd i a e, ρ, o, k, h, hr => by
    unfold xS at h
    unfold wS
    split at h
    · rename_i dss e1
      simp only [nlAt_ok e1]
      refine ste (w := fun q => wE X a ρ q _) h hr (fun r' e1 q => xE_ok Y a e1) fun y h => ?_
      cases y <;> first | (cases h; done) | skip
      simp only at h
      split at h
      · rename_i n e2
        split at h
        · rename_i ds e3
          split at h
          · rename_i hl
            refine ⟨n, ds, e2, e3, few_lt hl, ?_⟩
            refine ste (w := fun q => wE X e ρ q _) h hr (fun r' e1 q => xE_ok Y e e1) fun d h => ?_
            split at h
            · rename_i hn; cases h; exact ⟨hn, hr⟩
            · cases h
          · cases h
        · cases h
      · cases h
    · cases h
  | .nlc i e t kd es, ρ, o, k, h, hr => by
    unfold xS at h
    split at h
    · rename_i hf
      refine ⟨hf, ?_⟩
      refine ste (w := fun q => wEs X es ρ q _) h hr (fun r' e1 q => xEs_ok Y es e1) fun vs h => ?_
      split at h
      · rename_i ds e1
        refine itX_ok e1 ?_
        split at h
        · rename_i hl
          split at h
          · rename_i dss e2
            cases h
            exact nlX_ok (acc := []) (elW := fun ρ' q => wE X e ρ' q fun _ _ => False) (fun ρ1 d h q hq => xE_ok Y e (okOf_ok h) hq) e2 (by simpa using hl) (show k.nx _ from hr)
          · cases h
        · cases h
      · cases h
    · cases h
  | .nappE i e, ρ, o, k, h, hr => by
    unfold xS at h
    unfold wS
    split at h
    · rename_i hf
      refine ⟨hf, ?_⟩
      split at h
      · rename_i dss e1
        simp only [nlAt_ok e1]
        refine ste (w := fun q => wE X e ρ q _) h hr (fun r' e1 q => xE_ok Y e e1) fun d h => ?_
        cases d <;> first | (cases h; done) | skip
        simp only at h
        split at h
        · rename_i hc; cases h; exact ⟨hc.1, few_lt hc.2, hr⟩
        · cases h
      · cases h
    · cases h
  | .dnew i t, ρ, o, k, h, hr => by unfold xS at h; cases h; exact hr
  | .dput i t es e, ρ, o, k, h, hr => by
    unfold xS at h
    refine ste (w := fun q => wE X e ρ q _) h hr (fun r' e1 q => xE_ok Y e e1) fun d h => ?_
    split at h
    · rename_i hn
      refine ⟨hn, ?_⟩
      split at h
      · rename_i t' kvs e1
        try simp only [e1]
        split at h
        · rename_i et
          refine ⟨et, ?_⟩
          refine ste (w := fun q => wEs X es ρ q _) h hr (fun r' e1 q => xEs_ok Y es e1) fun vs h => ?_
          split at h
          · rename_i ns e2
            split at h
            · rename_i hc; cases h; exact ⟨hc.1, ns, e2, few_lt hc.2, hr⟩
            · cases h
          · cases h
        · cases h
      · cases h
    · cases h
  | .popU is i, ρ, o, k, h, hr => by
    unfold xS at h
    unfold wS
    split at h
    · rename_i ds e
      split at h
      · rename_i d e2
        simp only [olAt_ok e]
        refine ⟨d, e2, ?_⟩
        unfold setX at h
        split at h
        · obtain ⟨ρ', e3, rfl⟩ := Option.map_eq_some_iff.mp h
          simp only [e3]
          exact hr
        · cases h
      · cases h
    · cases h
  | .popA _ _, ρ, o, k, h, hr => by unfold xS at h; cases h
theorem xSs_ok {X : Cl} {V : Call} {sub : Nat → Nat → Bool} {flds : Nat → List Str} (Y : Says X V sub flds) : ∀ (ss : List Uq.S) {ρ : Env} {o : Oc} {k : K}, xSs V sub flds ss ρ = some o → acc o k → wSs X ss ρ k
  | [], ρ, o, k, h, hr => by unfold xSs at h; cases h; exact hr
  | s :: ss, ρ, o, k, h, hr => by
    unfold xSs at h
    split at h
    · rename_i ρ' e
      exact xS_ok Y s e (xSs_ok Y ss h hr)
    · rename_i hn
      refine xS_ok Y s h ?_
      cases o with
      | nx ρ' => exact absurd h (hn ρ')
      | ex c fs ρ' => exact hr
      | rt _ => exact hr
      | bk _ => exact hr
      | ct _ => exact hr
theorem xHs_ok {X : Cl} {V : Call} {sub : Nat → Nat → Bool} {flds : Nat → List Str} (Y : Says X V sub flds) : ∀ (hb : List (List Uq.S)) {hc : List Nat} {hv : List (Option Nat)} {c : Nat} {fs : List D} {ρ : Env} {o : Oc} {k : K}, xHs V sub flds hb hc hv c fs ρ = some o → acc o k → wHs X hc hv hb c fs ρ k
  | [], hc, hv, c, fs, ρ, o, k, h, hr => by unfold xHs at h; cases h; exact hr
  | b :: bs, hc, hv, c, fs, ρ, o, k, h, hr => by
    unfold xHs at h
    split at h
    · rename_i h1 hc' v hv'
      show (if X.sub c h1 = true then _ else _)
      rw [Y.sub]
      split at h
      · rename_i hs
        rw [if_pos hs]
        split at h
        · rename_i v
          split at h
          · rename_i o1 e1
            refine xSs_ok Y b e1 ?_
            cases o1 <;> (unfold clr at h; cases h) <;> exact hr
          · cases h
        · split at h
          · rename_i o1 e1
            refine xSs_ok Y b e1 ?_
            unfold noEx at h
            split at h
            · cases h
            · rename_i hn
              cases h
              cases o with
              | ex c fs ρ' => exact absurd rfl (hn c fs ρ')
              | nx _ => exact hr
              | rt _ => exact hr
              | bk _ => exact hr
              | ct _ => exact hr
          · cases h
      · rename_i hs
        rw [if_neg hs]
        exact xHs_ok Y bs h hr
    · cases h
end
theorem xC_ok {T : Nat → Option Fn} {sub : Nat → Nat → Bool} {flds : Nat → List Str} : ∀ {n f : Nat} {vs : List D} {r : Rz D} {Q : QD} {E : Ex}, xC T sub flds n f vs = some r → okr r Q E → wC T sub flds n f vs Q E
  | 0, f, vs, r, Q, E, h, hr => by cases h
  | n + 1, f, vs, r, Q, E, h, hr => by
    unfold xC at h
    unfold wC
    split at h
    · rename_i fn e
      try simp only [e]
      split at h
      · rename_i hl
        refine ⟨hl, ?_⟩
        have S : Says ⟨wC T sub flds n, sub, flds⟩ (xC T sub flds n) sub flds := ⟨fun f vs r h Q E hr => xC_ok h hr, rfl, rfl⟩
        split at h
        · rename_i ρ' e2; cases h; exact xSs_ok S _ e2 hr
        · rename_i d e2; cases h; exact xSs_ok S _ e2 hr
        · rename_i c fs ρ' e2; cases h; exact xSs_ok S _ e2 hr
        · cases h
      · cases h
    · cases h
/-- a closed call that gives d -/
theorem run_ok {T : Nat → Option Fn} {sub : Nat → Nat → Bool} {flds : Nat → List Str} {n f : Nat} {vs : List D} {d : D} {Q : QD} {E : Ex} (h : xC T sub flds n f vs = some (.ok d)) (q : Q d) : wC T sub flds n f vs Q E := xC_ok h q
end Uq

set_option maxHeartbeats 2000000
/-! Plain side, part l: steps for the newer terms. -/
namespace Uq
open PySem
section
variable {X : Cl} {ρ : Env} {Q : QD} {E : Ex} {k : K}
def tstR (d : D) (f : Bool → Prop) : Prop := match d with
  | .bool b => f b
  | _ => False
@[simp] theorem tstR_bool {b f} : tstR (.bool b) f = f b := id rfl
@[simp] theorem wE_chn {o o' a b c} : wE X (.chn o o' a b c) ρ Q E = wE X a ρ (fun x => wE X b ρ (fun y => cmpR o x y fun z => tstR z fun k => if k = true then wE X c ρ (fun u => cmpR o' y u Q) E else Q (.bool false)) E) E := by
  show wE X a ρ _ E = _
  congr 1
@[simp] theorem wE_chn3 {o o' o2 a b c d} : wE X (.chn3 o o' o2 a b c d) ρ Q E = wE X a ρ (fun x => wE X b ρ (fun y => cmpR o x y fun z => tstR z fun k => if k = true then wE X c ρ (fun u => cmpR o' y u fun z => tstR z fun k => if k = true then wE X d ρ (fun v => cmpR o2 u v Q) E else Q (.bool false)) E else Q (.bool false)) E) E := by
  show wE X a ρ _ E = _
  congr 1
def ixoR (o : Option Sl) (w : (D → Prop) → Prop) (Q : QD) : Prop := match o with
  | some (.va d) => w fun y => ixR d y Q
  | some (.ol ds) => w fun y => ixR (.list ds) y Q
  | _ => False
@[simp] theorem ixoR_va {d w} : ixoR (some (.va d)) w Q = w fun y => ixR d y Q := id rfl
@[simp] theorem ixoR_ol {ds w} : ixoR (some (.ol ds)) w Q = w fun y => ixR (.list ds) y Q := id rfl
@[simp] theorem wE_ixo {i b} : wE X (.ixo i b) ρ Q E = ixoR ρ[i]? (fun q => wE X b ρ q E) Q := by
  have e : wE X (.ixo i b) ρ Q E = (match ρ[i]? with
    | some (.va d) => wE X b ρ (fun y => ixR d y Q) E
    | some (.ol ds) => wE X b ρ (fun y => ixR (.list ds) y Q) E
    | _ => False) := rfl
  rw [e]
  unfold ixoR
  cases h : ρ[i]? with
  | none => rfl
  | some s => cases s <;> rfl
@[simp] theorem isNonC_ixo {i b} : isNonC (.ixo i b) = false := id rfl
@[simp] theorem fresh_ixo {i b} : Uq.fresh (.ixo i b) = false := id rfl
@[simp] theorem fresh_ssc {e t kk es} : Uq.fresh (.ssc e t kk es) = true := id rfl
@[simp] theorem fresh_dq {o t es i ds} : Uq.fresh (.dq o t es i ds) = false := id rfl
@[simp] theorem fresh_chn {o o' a b c} : Uq.fresh (.chn o o' a b c) = false := id rfl
@[simp] theorem fresh_divmod {es} : Uq.fresh (.bi .divmod es) = false := id rfl
@[simp] theorem fresh_lrng1 {es} : Uq.fresh (.bi .lrng1 es) = true := id rfl
@[simp] theorem biR_divmod {i j} : biR .divmod [.int i, .int j] Q = ((0 < j ∧ j < 1073741824) ∧ Q (.tuple [.int (i / j), .int (i % j)])) := id rfl
/-- sorted({..}) -/
def sscG (X : Cl) (e : C) (t : Tg) (ρ : Env) (ds : List D) (Q : QD) : Prop := ∃ n B, 1 ≤ n ∧ ssW (fun ρ' q => wE X e ρ' q fun _ _ => False) t ρ n B ds [] fun rows =>
  ∀ out : List (List Int), out.Nodup → (∀ r, r ∈ out ↔ r ∈ rows) → out.Pairwise (fun q r => TS.code B q ≤ TS.code B r) → Q (.list (out.map rowD))
@[simp] theorem wE_ssc {e t ik es} : wE X (.ssc e t ik es) ρ Q E = wEs X es ρ (fun vs => itR ik vs fun ds => sscG X e t (kil (tgI t) (frzIt ik es ρ)) ds Q) E := id rfl
theorem ssW_map {el : Env → QD → Prop} {t : Tg} {B : Int} (f : D → Pr2) : ∀ {ds : List D} {rows : List (List Int)} {R : List (List Int) → Prop}, (∀ d ∈ ds, ∀ R : QD, R (prD (f d)) → tgR t d ρ fun ρ' => el ρ' R) → (∀ d ∈ ds, 0 ≤ (f d).1 ∧ 0 ≤ (f d).2 ∧ (f d).1 < B ∧ (f d).2 < B) →
    rows.length + ds.length < 64 → R (rows ++ (ds.map f).map rowP) → ssW el t ρ 2 B ds rows R
  | [], rows, R, _, _, _, q => by
    show R rows
    simpa using q
  | d :: ds, rows, R, h, hB, hl, q => by
    rw [List.length_cons] at hl
    obtain ⟨b0, b1, b2, b3⟩ := hB d List.mem_cons_self
    refine h d List.mem_cons_self _ ⟨rowP (f d), rfl, rfl, fun x hx => ?_, by omega, ssW_map f (fun x hx => h x (List.mem_cons_of_mem _ hx)) (fun x hx => hB x (List.mem_cons_of_mem _ hx)) (by simp; omega) (by simpa using q)⟩
    simp only [rowP, List.mem_cons, List.not_mem_nil, or_false] at hx
    rcases hx with rfl | rfl <;> constructor <;> assumption
theorem sscG_map {e : C} {t : Tg} {ds : List D} (f : D → Pr2) (h : ∀ d ∈ ds, ∀ R : QD, R (prD (f d)) → tgR t d ρ fun ρ' => wE X e ρ' R fun _ _ => False) (hp : ∀ d ∈ ds, 0 ≤ (f d).1 ∧ 0 ≤ (f d).2) (hl : ds.length < 64) (q : Q (.list ((line (ds.map f)).map prD))) : sscG X e t ρ ds Q := by
  obtain ⟨B, hB, hb⟩ := bound (ds.map f)
  have hb' : ∀ p ∈ ds.map f, 0 ≤ p.1 ∧ 0 ≤ p.2 := fun p hm => by
    obtain ⟨d, hd, rfl⟩ := List.mem_map.mp hm
    exact hp d hd
  refine ⟨2, B, by decide, ssW_map f h (fun d hd => ⟨(hp d hd).1, (hp d hd).2, hb _ (List.mem_map_of_mem hd)⟩) (by simpa using hl) fun out hnd hmem hpw => ?_⟩
  rw [out_line hb' hb hnd (by simpa using hmem) hpw]
  exact q
/-! dicts -/
def dqO (o : Option Sl) (t : Bool) (w : (List D → Prop) → Prop) (f : List (List Int × D) → List Int → Prop) : Prop := match o with
  | some (.dc t' kvs) => t' = t ∧ w fun vs => (t = false → vs.length = 1) ∧ ∃ ns, ints? vs = some ns ∧ f kvs ns
  | _ => False
@[simp] theorem wE_dq {o t es i ds} : wE X (.dq o t es i ds) ρ Q E = dqO ρ[i]? t (fun q => wEs X es ρ q E) fun kvs ns => dqR o kvs ns (fun q => wEs X ds ρ q E) Q := by
  unfold wE dqO
  cases h : ρ[i]? with
  | none => rfl
  | some s => cases s <;> rfl
@[simp] theorem dqO_dc {kvs t w f} : dqO (some (.dc t kvs)) t w f = w fun vs => (t = false → vs.length = 1) ∧ ∃ ns, ints? vs = some ns ∧ f kvs ns := by
  unfold dqO
  simp
@[simp] theorem ints_two {a b : Int} {f : List Int → Prop} : (∃ ns, ints? [PyData.int a, PyData.int b] = some ns ∧ f ns) = f [a, b] := propext ⟨fun ⟨ns, h, q⟩ => by cases h; exact q, fun q => ⟨_, rfl, q⟩⟩
@[simp] theorem ints_one {a : Int} {f : List Int → Prop} : (∃ ns, ints? [PyData.int a] = some ns ∧ f ns) = f [a] := propext ⟨fun ⟨ns, h, q⟩ => by cases h; exact q, fun q => ⟨_, rfl, q⟩⟩
@[simp] theorem dqR_mem {n kvs ns wd} : dqR (.mem n) kvs ns wd Q = Q (.bool ((look kvs ns).isSome != n)) := id rfl
@[simp] theorem wS_dnew {i t} : wS X (.dnew i t) ρ k = k.nx (ρ.set i (.dc t [])) := id rfl
def dputO (o : Option Sl) (t : Bool) (w : (List D → Prop) → Prop) (f : List (List Int × D) → List Int → Prop) : Prop := match o with
  | some (.dc t' kvs) => t' = t ∧ w fun vs => (t = false → vs.length = 1) ∧ ∃ ns, ints? vs = some ns ∧ kvs.length < sizeLine ∧ f kvs ns
  | _ => False
@[simp] theorem wS_dput {i t es e} : wS X (.dput i t es e) ρ k = wE X e ρ (fun d => noL d = true ∧ dputO ρ[i]? t (fun q => wEs X es ρ q fun c fs => k.ex c fs ρ) fun kvs ns => k.nx (ρ.set i (.dc t (putD kvs ns d)))) fun c fs => k.ex c fs ρ := by
  show wE X e ρ _ _ = _
  congr 1
@[simp] theorem dputO_dc {kvs t w f} : dputO (some (.dc t kvs)) t w f = w fun vs => (t = false → vs.length = 1) ∧ ∃ ns, ints? vs = some ns ∧ kvs.length < sizeLine ∧ f kvs ns := by
  unfold dputO
  simp
@[simp] theorem frz_dc {t kvs} : Sl.frz (.dc t kvs) = .no := id rfl
/-! x.pop() taken apart -/
def popUR (is : List Nat) (o : Option Sl) (f : Sl → Env) (Q : Env → Prop) : Prop := match o with
  | some (.ol ds) => ∃ d, ds.getLast? = some d ∧ unpR is d (f (.ol ds.dropLast)) Q
  | _ => False
@[simp] theorem wS_popU {is i} : wS X (.popU is i) ρ k = popUR is ρ[i]? (fun s => ρ.set i s) k.nx := by
  unfold wS popUR
  cases h : ρ[i]? with
  | none => rfl
  | some s => cases s <;> rfl
theorem popUR_snoc {is : List Nat} {ds : List D} {d : D} {f : Sl → Env} {R : Env → Prop} (h : unpR is d (f (.ol ds)) R) : popUR is (some (.ol (ds ++ [d]))) f R := ⟨d, by simp, by simpa using h⟩
/-! lists of lists -/
def nlG (X : Cl) (e : C) (t : Tg) (ρ : Env) (ds : List D) (acc : List (List D)) (R : List (List D) → Prop) : Prop := nlW (fun ρ' q => wE X e ρ' q fun _ _ => False) t ρ ds acc R
@[simp] theorem wS_nlc {i e t kd es} : wS X (.nlc i e t kd es) ρ k = (Uq.fresh e = true ∧ wEs X es ρ (fun vs => itR kd vs fun ds => nlG X e t (kil (tgI t) (frzIt kd es ρ)) ds [] fun dss => k.nx ((frzIt kd es ρ).set i (.nl dss))) fun c fs => k.ex c fs ρ) := id rfl
theorem nlG_map {e : C} {t : Tg} (f : D → List D) : ∀ {ds : List D} {acc : List (List D)} {R : List (List D) → Prop}, (∀ d ∈ ds, noLs (f d) = true ∧ ∀ R : QD, R (.list (f d)) → tgR t d ρ fun ρ' => wE X e ρ' R fun _ _ => False) → acc.length + ds.length ≤ sizeLine → R (acc ++ ds.map f) → nlG X e t ρ ds acc R
  | [], acc, R, _, _, q => by
    show R acc
    simpa using q
  | d :: ds, acc, R, h, hl, q => by
    rw [List.length_cons] at hl
    obtain ⟨h1, h2⟩ := h d List.mem_cons_self
    exact h2 _ ⟨h1, by omega, nlG_map f (fun x hx => h x (List.mem_cons_of_mem _ hx)) (by simp; omega) (by simpa using q)⟩
def nappER (o : Option Sl) (w : QD → Prop) (f : Sl → Prop) : Prop := match o with
  | some (.nl dss) => w fun d => match d with
    | .list ds => noLs ds = true ∧ dss.length < sizeLine ∧ f (.nl (dss ++ [ds]))
    | _ => False
  | _ => False
def nappEI (dss : List (List D)) (f : Sl → Prop) (d : D) : Prop := match d with
  | .list ds => noLs ds = true ∧ dss.length < sizeLine ∧ f (.nl (dss ++ [ds]))
  | _ => False
@[simp] theorem nappEI_l {dss f ds} : nappEI dss f (.list ds) = (noLs ds = true ∧ dss.length < sizeLine ∧ f (.nl (dss ++ [ds]))) := id rfl
@[simp] theorem nappER_nl {dss w f} : nappER (some (.nl dss)) w f = w fun d => nappEI dss f d := by
  unfold nappER
  congr 1
@[simp] theorem wS_nappE {i e} : wS X (.nappE i e) ρ k = (Uq.fresh e = true ∧ nappER ρ[i]? (fun q => wE X e ρ q fun c fs => k.ex c fs ρ) fun s => k.nx (ρ.set i s)) := by
  unfold wS nappER
  cases h : ρ[i]? with
  | none => rfl
  | some s => cases s <;> rfl
end
theorem putK_new {kvs : List (List Int × D)} {k : List Int} {v : D} (h : look kvs k = none) : putD kvs k v = kvs ++ [(k, v)] := by
  unfold putD
  rw [if_neg]
  intro h2
  obtain ⟨p, hp, e⟩ := List.any_eq_true.mp h2
  unfold look at h
  have := List.find?_eq_none.mp (Option.map_eq_none_iff.mp h) p hp
  exact this e
end Uq

set_option maxHeartbeats 1000000
/-! k30: cuttings, judged. -/
namespace K30.P
open PySem Uq
abbrev W (n f : Nat) (vs : List D) (Q : QD) (E : Ex) : Prop := wC T sub flds n f vs Q E
theorem is_integer {n : Nat} {d : D} {Q : QD} {E : Ex} (ho : opq d = false) (h : Q (.bool (isInt d))) : W (n + 1) f_is_integer [d] Q E := by
  refine wC_of (fn := fn_is_integer) rfl rfl ?_
  cases d <;> simp_all [fn_is_integer, wSs, wS, wE, wEs, isInt]
theorem is_number {n : Nat} {d : D} {Q : QD} {E : Ex} (ho : opq d = false) (h : Q (.bool (isNum d))) : W (n + 2) f_is_number [d] Q E := by
  refine wC_of (fn := fn_is_number) rfl rfl ?_
  refine is_integer ho ?_
  cases d <;> simp_all [isInt, isNum, fn_is_number]
/-- a chord of a cutting of c corners -/
def chordB (c : Int) (p : Pr2) : Bool := decide (0 ≤ p.1 ∧ 0 ≤ p.2 ∧ p.2 < c ∧ 2 ≤ p.2 - p.1 ∧ (0 < p.1 ∨ p.2 < c - 1))
theorem e_is_chord {n : Nat} {c : Int} {p : Pr2} {Q : QD} {E : Ex} (h : Q (.bool (chordB c p))) : W (n + 3) f_e_is_chord [.int c, prD p] Q E := by
  obtain ⟨a, b⟩ := p
  refine wC_of (fn := fn_e_is_chord) rfl rfl ?_
  simp [fn_e_is_chord, prD, pr]
  refine is_number rfl ?_
  by_cases h0 : 0 ≤ a
  · simp [isNum, h0]
    refine is_number rfl ?_
    by_cases h1 : 0 ≤ b
    · simp [isNum, h1]
      by_cases h2 : c ≤ b
      · have e : chordB c (a, b) = false := decide_eq_false (by simp only; omega)
        rw [e] at h
        simp [h2]
        exact h
      · simp [h2]
        by_cases h3 : b - a < 2
        · have e : chordB c (a, b) = false := decide_eq_false (by simp only; omega)
          rw [e] at h
          simp [h3]
          exact h
        · simp [h3]
          by_cases h4 : 0 < a
          · have e : chordB c (a, b) = true := decide_eq_true ⟨h0, h1, by simp only; omega, by simp only; omega, .inl h4⟩
            rw [e] at h
            simp [h4]
            exact h
          · simp [h4]
            have e : chordB c (a, b) = decide (b < c - 1) := decide_eq_decide.mpr (by simp only; omega)
            rw [e] at h
            exact h
    · have e : chordB c (a, b) = false := decide_eq_false (by simp only; omega)
      rw [e] at h
      simp [isNum, h1]
      exact h
  · have e : chordB c (a, b) = false := decide_eq_false (by simp only; omega)
    rw [e] at h
    simp [isNum, h0]
    exact h
/-- the chord p runs over the chord q, which is told ahead -/
abbrev crs (q p : Pr2) : Prop := q.1 < p.1 ∧ p.1 < q.2 ∧ q.2 < p.2
/-- a cutting -/
structure Cut (n : Nat) (ps : List Pr2) : Prop where
  n2 : 2 ≤ n
  n60 : n ≤ 60
  ch : ∀ p ∈ ps, chordB n p = true
  nc : ps.Pairwise fun q p => lt2 q p ∧ ¬ crs q p
  ln : n ≤ ps.length + 3
theorem Cut.up {n : Nat} {ps : List Pr2} (c : Cut n ps) : Up ps := c.nc.imp fun h => h.1
theorem Cut.inb {n : Nat} {ps : List Pr2} (c : Cut n ps) {p : Pr2} (h : p ∈ ps) : 0 ≤ p.1 ∧ p.1 + 2 ≤ p.2 ∧ p.2 < n ∧ (0 < p.1 ∨ p.2 < n - 1) := by
  have := of_decide_eq_true (c.ch p h)
  omega
abbrev cutD (n : Nat) (ps : List Pr2) : D := .tuple [.int n, .tuple (ps.map prD)]
theorem Cut.len {c : Nat} {ps : List Pr2} (ct : Cut c ps) : ps.length ≤ 3600 := by
  -- strictly rising pairs below 60
  have key : ∀ (l : List Pr2) (lo : Int), Up l → (∀ p ∈ l, lo ≤ p.1 * 60 + p.2 ∧ 0 ≤ p.2 ∧ p.2 < 60 ∧ p.1 * 60 + p.2 < 3600) → (l.length : Int) ≤ 3600 - lo ∨ l = [] := fun l => by
    induction l with
    | nil => exact fun _ _ _ => .inr rfl
    | cons p l ih =>
      intro lo hu hb
      have h1 := hb p List.mem_cons_self
      have h2 := List.pairwise_cons.mp hu
      refine .inl ?_
      have hb2 : ∀ q ∈ l, p.1 * 60 + p.2 + 1 ≤ q.1 * 60 + q.2 ∧ 0 ≤ q.2 ∧ q.2 < 60 ∧ q.1 * 60 + q.2 < 3600 := fun q hq => by
        have h3 := hb q (List.mem_cons_of_mem _ hq)
        have h4 := h2.1 q hq
        unfold lt2 at h4
        omega
      rcases ih (p.1 * 60 + p.2 + 1) h2.2 hb2 with h | h
      · rw [List.length_cons]; omega
      · subst h; simp only [List.length_singleton]; omega
  rcases key ps 0 ct.up (fun p hp => by have := ct.inb hp; have := ct.n60; omega) with h | h
  · omega
  · subst h; simp
theorem le_prs {p q : Pr2} {Q : QD} (h : Q (.bool (leP2 p q))) : cmpR .le (prD p) (prD q) Q := by
  refine ⟨ltOk_pr, ?_⟩
  have := dataLe_prD p q
  rw [← this] at h
  exact h
theorem chord_fault {n c : Nat} {ps : List Pr2} {at_ : Nat} {Q : QD} {E : Ex} (hn : c ≤ 60) (hc : ∀ p ∈ ps, chordB c p = true) (nc : ps.Pairwise fun q p => lt2 q p ∧ ¬ crs q p) (ha : at_ < ps.length) (hl : ps.length ≤ 3600) (h : Q .none) :
    W (n + 4) f_e_chord_fault [.int c, .tuple (ps.map prD), .int at_] Q E := by
  refine wC_of (fn := fn_e_chord_fault) rfl rfl ?_
  have e0 : L2.atI (ps.map prD) (at_ : Int) = some (prD ps[at_]) := atI_nat (by simp [ha])
  simp [fn_e_chord_fault, e0]
  refine e_is_chord ?_
  rw [hc _ (List.getElem_mem ha)]
  have key : wSs ⟨wC T sub flds (n + 3), sub, flds⟩ (fn_e_chord_fault.body.drop 3) [.va (.int c), .va (.tuple (ps.map prD)), .va (.int at_), .va (prD ps[at_]), .no, .no] ⟨fun _ => Q .none, Q, fun _ => False, fun _ => False, fun c fs _ => E c fs⟩ := by
    have e1 : cut (ps.map prD) none (some (at_ : Int)) = (ps.take at_).map prD := by rw [cut_to (by omega), List.map_take]; rfl
    simp [fn_e_chord_fault, e1, -List.map_take]
    refine frW_ind (I := fun es ρ => (∀ d ∈ es, ∃ q ∈ ps.take at_, d = prD q) ∧ ∃ s4 s5, ρ = [.va (.int c), .va (.tuple (ps.map prD)), .va (.int at_), .va (prD ps[at_]), s4, s5]) ?_ ?_ _ _ ⟨fun d hd => ?_, .no, .no, rfl⟩
    · rintro ρ ⟨_, s4, s5, rfl⟩
      simp
      exact h
    · rintro d es ρ R ⟨hd, s4, s5, rfl⟩ hR
      obtain ⟨q, hq, rfl⟩ := hd d List.mem_cons_self
      have hR := hR [.va (.int c), .va (.tuple (ps.map prD)), .va (.int at_), .va (prD ps[at_]), .no, .no] ⟨fun x hx => hd x (List.mem_cons_of_mem _ hx), _, _, rfl⟩
      have nx : ¬ crs q ps[at_] := by
        obtain ⟨i, hi, e⟩ := List.mem_iff_getElem.mp hq
        rw [List.length_take] at hi
        have := List.pairwise_iff_getElem.mp nc i at_ (by omega) ha (by omega)
        rw [List.getElem_take] at e
        rw [← e]
        exact this.2
      generalize hp : ps[at_] = p at nx hR
      obtain ⟨p1, p2⟩ := p
      obtain ⟨q1, q2⟩ := q
      simp only [crs] at nx
      by_cases h1 : q1 < p1
      · by_cases h2 : p1 < q2
        · have h3 : ¬ q2 < p2 := fun z => nx ⟨h1, h2, z⟩
          simp [prD, pr, h1, h2, h3] at hR ⊢
          exact hR
        · simp [prD, pr, h1, h2] at hR ⊢
          exact hR
      · simp [prD, pr, h1] at hR ⊢
        exact hR
    · obtain ⟨q, hq, rfl⟩ := List.mem_map.mp hd
      exact ⟨q, hq, rfl⟩
  by_cases h0 : 0 < at_
  · have e1 : L2.atI (ps.map prD) ((at_ : Int) - 1) = some (prD ps[at_ - 1]) := by
      have := atI_nat (xs := ps.map prD) (i := at_ - 1) (d := prD ps[at_ - 1]) (by simp [show at_ - 1 < ps.length by omega])
      have e : ((at_ - 1 : Nat) : Int) = (at_ : Int) - 1 := by omega
      rwa [e] at this
    have lt := (List.pairwise_iff_getElem.mp nc (at_ - 1) at_ (by omega) ha (by omega)).1
    have hle : leP2 ps[at_] ps[at_ - 1] = false := by
      unfold leP2
      refine decide_eq_false ?_
      unfold lt2 at lt
      omega
    simp [h0, e1]
    refine le_prs ?_
    rw [hle]
    simp
    simpa [fn_e_chord_fault] using key
  · simp [h0]
    simpa [fn_e_chord_fault] using key
theorem lets_cutting {n c : Nat} {ps : List Pr2} {Q : QD} {E : Ex} (ct : Cut c ps) (h : Q (.int ps.length)) : W (n + 5) f_lets_cutting [cutD c ps] Q E := by
  refine wC_of (fn := fn_lets_cutting) rfl rfl ?_
  have h2 := ct.n2
  have hln := ct.ln
  have hl := ct.len
  simp [fn_lets_cutting]
  refine is_integer rfl ?_
  have n2 : ¬ ((c : Int) < 2) := by omega
  have n3 : ¬ ((ps.length : Int) < (c : Int) - 3) := by omega
  simp [isInt, n2]
  refine ⟨by omega, ?_⟩
  have e : upto 0 ps.length = upto (0 + ((0 : Nat) : Int)) ps.length := rfl
  rw [e]
  refine frW_upto (lo := 0) (m := ps.length) (I := fun k ρ => ∃ s3 s4, ρ = [.va (cutD c ps), .va (.int c), .va (.tuple (ps.map prD)), s3, s4]) ?_ ?_ ps.length 0 _ (by omega) ⟨_, _, rfl⟩
  · rintro ρ ⟨s3, s4, rfl⟩
    simp [n3]
    exact h
  · rintro k ρ R hk ⟨s3, s4, rfl⟩ hR
    simp
    refine chord_fault ct.n60 ct.ch ct.nc hk hl ?_
    simp
    exact hR _ ⟨_, _, rfl⟩
theorem is_cutting {n c : Nat} {ps : List Pr2} {Q : QD} {E : Ex} (ct : Cut c ps) (h : Q (.bool true)) : W (n + 6) f_is_cutting [cutD c ps] Q E := by
  refine wC_of (fn := fn_is_cutting) rfl rfl ?_
  simp [fn_is_cutting]
  refine lets_cutting ct ?_
  exact h
theorem need_cutting {n c : Nat} {ps : List Pr2} {Q : QD} {E : Ex} (ct : Cut c ps) (h : Q .none) : W (n + 7) f_e_need_cutting [cutD c ps] Q E := by
  refine wC_of (fn := fn_e_need_cutting) rfl rfl ?_
  simp [fn_e_need_cutting]
  refine is_cutting ct ?_
  simp
  exact h
theorem need_corners {n c : Nat} {Q : QD} {E : Ex} (hc : 2 ≤ c) (h : Q .none) : W (n + 2) f_e_need_corners [.int c] Q E := by
  refine wC_of (fn := fn_e_need_corners) rfl rfl ?_
  simp [fn_e_need_corners]
  refine is_integer rfl ?_
  have : ¬ ((c : Int) < 2) := by omega
  simp [isInt, this]
  exact h
theorem need_number {n : Nat} {i : Int} {w : Str} {Q : QD} {E : Ex} (hi : 0 ≤ i) (h : Q .none) : W (n + 3) f_e_need_number [.str w, .int i] Q E := by
  refine wC_of (fn := fn_e_need_number) rfl rfl ?_
  simp [fn_e_need_number]
  refine is_number rfl ?_
  simp [isNum, hi]
  exact h
theorem need_below {n c : Nat} {i : Int} {Q : QD} {E : Ex} (hc : 2 ≤ c) (hi : 0 ≤ i) (hi2 : i < c) (h : Q .none) : W (n + 4) f_e_need_corner_below [.int c, .int i] Q E := by
  refine wC_of (fn := fn_e_need_corner_below) rfl rfl ?_
  simp [fn_e_need_corner_below]
  refine need_corners (n := n + 1) hc ?_
  refine is_number rfl ?_
  have : ¬ ((c : Int) ≤ i) := by omega
  simp [isNum, hi, this]
  exact h
end K30.P

set_option maxHeartbeats 1000000
/-! k30: cuttings made, neighbours, prices. -/
namespace K30.P
open PySem Uq
def mm (p : Pr2) : Pr2 := (if p.2 < p.1 then p.2 else p.1, if p.2 > p.1 then p.2 else p.1)
def cutOf (c : Nat) (l : List Pr2) : List Pr2 := (line (l.map mm)).filter (chordB c)
def isP (f : Pr2 → Bool) : D → Bool
  | .tuple [.int a, .int b] => f (a, b)
  | _ => false
def prOf : D → Pr2
  | .tuple [.int a, .int b] => (a, b)
  | _ => (0, 0)
theorem filt_prs (f : Pr2 → Bool) : ∀ l : List Pr2, (l.map prD).filter (isP f) = (l.filter f).map prD
  | [] => rfl
  | p :: l => by
    have e : isP f (prD p) = f p := rfl
    rw [List.map_cons, List.filter_cons, List.filter_cons, e, filt_prs f l]
    split <;> rfl
theorem line_len' : ∀ (l : List Pr2), (line l).length ≤ l.length := by
  have aux : ∀ {p : Pr2} {l : List Pr2}, (ins p l).length ≤ l.length + 1 := fun {p l} => by
    induction l with
    | nil => simp [ins]
    | cons q r ih =>
      unfold ins
      split
      · simp
      · split <;> simp only [List.length_cons] <;> omega
  intro l
  induction l with
  | nil => simp [line]
  | cons p r ih =>
    have := aux (p := p) (l := line r)
    simp only [line, List.length_cons]
    omega
theorem e_cutting_of {n c : Nat} {l : List Pr2} {Q : QD} {E : Ex} (hl : l.length < 64) (hp : ∀ p ∈ l, 0 ≤ p.1 ∧ 0 ≤ p.2) (h : Q (cutD c (cutOf c l))) : W (n + 4) f_e_cutting_of [.int c, .list (l.map prD)] Q E := by
  refine wC_of (fn := fn_e_cutting_of) rfl rfl ?_
  simp [fn_e_cutting_of]
  refine sscG_map (fun d => mm (prOf d)) (fun d hd R hR => ?_) (fun d hd => ?_) (by simpa using hl) ?_
  · obtain ⟨p, _, rfl⟩ := List.mem_map.mp hd
    obtain ⟨a, b⟩ := p
    simp [prD, pr]
    exact hR
  · obtain ⟨p, hm, rfl⟩ := List.mem_map.mp hd
    have := hp p hm
    obtain ⟨a, b⟩ := p
    simp only at this
    show 0 ≤ (if b < a then b else a) ∧ 0 ≤ (if b > a then b else a)
    constructor
    · by_cases h : b < a <;> simp only [h, if_true, if_false] <;> omega
    · by_cases h : b > a <;> simp only [h, if_true, if_false] <;> omega
  · have e : (l.map prD).map (fun d => mm (prOf d)) = l.map mm := by rw [List.map_map]; rfl
    rw [e, asgn_l rfl (noLs_prs _)]
    simp
    refine lcG_filt (fun d => d) (isP (chordB c)) _ _ (fun d hd R N h1 h2 => ?_) ?_ ?_
    · obtain ⟨p, _, rfl⟩ := List.mem_map.mp hd
      simp
      refine e_is_chord ?_
      have e2 : isP (chordB c) (prD p) = chordB c p := rfl
      rw [e2] at h1 h2
      cases q : chordB c p with
      | true => simpa [frzIt, nms, nmsL, tgI] using h1 q
      | false => simpa [frzIt, nms, nmsL, tgI] using h2 q
    · have := line_len' (l.map mm)
      simp at this ⊢
      exact le_size (by omega)
    · rw [filt_prs]
      simp
      exact h
/-- the sides and chords -/
def pairsL (c : Nat) (ps : List Pr2) : List Pr2 := ((List.range (c - 1)).map fun (k : Nat) => ((k : Int), (k : Int) + 1)) ++ ps ++ (if 2 < c then [(0, (c : Int) - 1)] else [])
def one1 (p : Pr2) (k : Int) : List Int := (if p.1 = k then [p.2] else []) ++ (if p.2 = k then [p.1] else [])
def rowOf (l : List Pr2) (k : Int) : List Int := l.flatMap fun p => one1 p k
theorem rowOf_snoc {l : List Pr2} {p : Pr2} {k : Int} : rowOf (l ++ [p]) k = rowOf l k ++ one1 p k := by simp [rowOf]
/-- the chords' ends at k -/
def endsN : List Pr2 → Int → Nat
  | [], _ => 0
  | p :: l, k => ((if p.1 = k then 1 else 0) + (if p.2 = k then 1 else 0)) + endsN l k
theorem endsN_app : ∀ {a b : List Pr2} {k : Int}, endsN (a ++ b) k = endsN a k + endsN b k
  | [], b, k => by simp [endsN]
  | p :: a, b, k => by
    rw [List.cons_append, endsN, endsN, endsN_app]
    omega
theorem rowOf_len : ∀ {l : List Pr2} {k : Int}, (rowOf l k).length = endsN l k
  | [], k => rfl
  | p :: l, k => by
    have e : rowOf (p :: l) k = one1 p k ++ rowOf l k := by simp [rowOf]
    rw [e, List.length_append, rowOf_len, endsN]
    congr 1
    unfold one1
    split <;> split <;> simp
theorem endsN_le : ∀ {l : List Pr2} {k : Int}, endsN l k ≤ 2 * l.length
  | [], _ => Nat.le_refl _
  | p :: l, k => by
    have := endsN_le (l := l) (k := k)
    rw [endsN, List.length_cons]
    split <;> split <;> omega
def tbl (c : Nat) (r : Int → List Int) : List (List D) := (List.range c).map fun (k : Nat) => (r k).map PyData.int
theorem tbl_len {c : Nat} {r : Int → List Int} : (tbl c r).length = c := by simp [tbl]
theorem tbl_at {c k : Nat} {r : Int → List Int} (h : k < c) : (tbl c r)[k]? = some ((r k).map PyData.int) := by simp [tbl, h]
theorem tbl_set {c k : Nat} {r r' : Int → List Int} {v : Int} (h : k < c) (e1 : r' k = r k ++ [v]) (e2 : ∀ j : Nat, j ≠ k → r' j = r j) : (tbl c r).set k ((r k).map PyData.int ++ [.int v]) = tbl c r' := by
  apply List.ext_getElem?
  intro j
  by_cases ej : k = j
  · subst ej
    rw [List.getElem?_set_self (by rw [tbl_len]; exact h), tbl_at h, e1, List.map_append]
    rfl
  · rw [List.getElem?_set_ne ej]
    by_cases hj : j < c
    · rw [tbl_at hj, tbl_at hj, e2 j (fun z => ej z.symm)]
    · rw [List.getElem?_eq_none (by rw [tbl_len]; omega), List.getElem?_eq_none (by rw [tbl_len]; omega)]
theorem ixN_nat {len n : Nat} (h : n < len) : L2.ixN len (n : Int) = some n := by
  unfold L2.ixN
  rw [if_pos (by omega), if_pos (by omega)]
  simp
theorem pairs_in {c : Nat} {ps : List Pr2} (ct : Cut c ps) : ∀ p ∈ pairsL c ps, 0 ≤ p.1 ∧ p.1 < p.2 ∧ p.2 < c := fun p hp => by
  have h2 := ct.n2
  unfold pairsL at hp
  rcases List.mem_append.mp hp with hp | hp
  · rcases List.mem_append.mp hp with hp | hp
    · obtain ⟨k, hk, rfl⟩ := List.mem_map.mp hp
      rw [List.mem_range] at hk
      simp only
      omega
    · have := ct.inb hp
      omega
  · split at hp
    · rw [List.mem_singleton.mp hp]
      simp only
      omega
    · cases hp
def srtF (d : D) : D := match d with
  | .list ds => match ints? ds with
    | some ns => .list ((isort leI ns).map PyData.int)
    | none => .none
  | _ => .none
def sideF (d : D) : D := match d with
  | .int k => prD (k, k + 1)
  | d => d
theorem srtF_ints {ns : List Int} : srtF (.list (ns.map PyData.int)) = .list ((isort leI ns).map PyData.int) := by
  unfold srtF
  simp only [ints_back]
theorem neighbour_table {n c : Nat} {ps : List Pr2} {Q : QD} {E : Ex} (ct : Cut c ps) (h : Q (.list ((List.range c).map fun (k : Nat) => .list ((isort leI (rowOf (pairsL c ps) k)).map PyData.int)))) : W (n + 1) f_e_neighbour_table [cutD c ps] Q E := by
  refine wC_of (fn := fn_e_neighbour_table) rfl rfl ?_
  have h2 := ct.n2
  have h60 := ct.n60
  have hlen := ct.len
  refine wSs_cut 3 ?_
  generalize hr : fn_e_neighbour_table.body.drop 3 = rest
  have key : wSs ⟨wC T sub flds n, sub, flds⟩ rest [.va (cutD c ps), .va (.int c), .va (.tuple (ps.map prD)), .ol ((pairsL c ps).map prD), .no, .no, .no, .no, .no, .no] ⟨fun _ => Q .none, Q, fun _ => False, fun _ => False, fun c fs _ => E c fs⟩ := by
    subst hr
    have hpl : (pairsL c ps).length ≤ 10000 := by
      unfold pairsL
      split <;> simp only [List.length_append, List.length_map, List.length_range, List.length_singleton, List.length_nil] <;> omega
    simp [fn_e_neighbour_table]
    refine ⟨by omega, ?_⟩
    refine nlG_map (fun _ => []) (fun d hd => ⟨rfl, fun R hR => ?_⟩) (by rw [upto_len]; exact le_size (by simp; omega)) ?_
    · simp
      exact hR
    · have e0 : ([] : List (List D)) ++ (upto 0 c).map (fun _ => []) = tbl c (rowOf []) := by
        rw [upto_map]
        unfold tbl
        simp [rowOf]
      rw [e0]
      refine frW_ind (I := fun es ρ => ∃ dn rs s7 s8, pairsL c ps = dn ++ rs ∧ es = rs.map prD ∧ ρ = [.va (cutD c ps), .no, .no, .va (.list ((pairsL c ps).map prD)), .no, .nl (tbl c (rowOf dn)), .no, s7, s8, .no]) ?_ ?_ _ _ ⟨[], pairsL c ps, .no, .no, rfl, rfl, by simp [frzIt, nms, nmsL]⟩
      · rintro ρ ⟨dn, rs, s7, s8, e1, e2, rfl⟩
        have : rs = [] := by
          cases rs with
          | nil => rfl
          | cons _ _ => cases e2
        subst this
        rw [List.append_nil] at e1
        rw [← e1]
        simp
        refine lcG_map srtF _ _ (fun d hd R hR => ?_) (by rw [List.length_map, tbl_len]; exact le_size (by simp; omega)) ?_
        · obtain ⟨r, hm, rfl⟩ := List.mem_map.mp hd
          obtain ⟨k, _, rfl⟩ := List.mem_map.mp hm
          rw [srtF_ints] at hR
          simp [frzIt, nms, nmsL, tgI]
          exact sorted_ints hR
        · have e : ((tbl c (rowOf (pairsL c ps))).map PyData.list).map srtF = (List.range c).map fun (k : Nat) => .list ((isort leI (rowOf (pairsL c ps) k)).map PyData.int) := by
            unfold tbl
            rw [List.map_map, List.map_map]
            apply List.map_congr_left
            intro k _
            exact srtF_ints
          rw [List.nil_append, e]
          exact h
      · rintro d es ρ R ⟨dn, rs, s7, s8, e1, e2, rfl⟩ hR
        cases rs with
        | nil => cases e2
        | cons p rs =>
          cases e2
          obtain ⟨b0, b1, b2⟩ := pairs_in ct p (by rw [e1]; simp)
          have hdn : dn.length ≤ 10000 := by
            have := congrArg List.length e1
            rw [List.length_append, List.length_cons] at this
            omega
          obtain ⟨a, ea⟩ := Int.eq_ofNat_of_zero_le b0
          obtain ⟨b, eb⟩ := Int.eq_ofNat_of_zero_le (show 0 ≤ p.2 by omega)
          have ha : a < c := by omega
          have hb : b < c := by omega
          have hab : a ≠ b := by omega
          obtain ⟨p1, p2⟩ := p
          cases ea
          cases eb
          have l1 : ∀ k : Int, (rowOf dn k).length ≤ 20000 := fun k => by
            rw [rowOf_len]
            have := endsN_le (l := dn) (k := k)
            omega
          -- the two steps
          have s1 : (tbl c (rowOf dn)).set a ((rowOf dn a).map PyData.int ++ [.int (b : Int)]) = tbl c (fun k => if k = (a : Int) then rowOf dn k ++ [(b : Int)] else rowOf dn k) := tbl_set ha (by simp) fun j hj => by
            rw [if_neg (by omega)]
          have s2 : (tbl c (fun k => if k = (a : Int) then rowOf dn k ++ [(b : Int)] else rowOf dn k)).set b ((rowOf dn b).map PyData.int ++ [.int (a : Int)]) = tbl c (rowOf (dn ++ [((a : Int), (b : Int))])) := by
            have eb' : (rowOf dn b).map PyData.int = ((fun k => if k = (a : Int) then rowOf dn k ++ [(b : Int)] else rowOf dn k) (b : Int)).map PyData.int := by
              simp only
              rw [if_neg (by omega)]
            rw [eb']
            refine tbl_set hb ?_ fun j hj => ?_
            · rw [rowOf_snoc, if_neg (by omega)]
              unfold one1
              rw [if_neg (by simp only; omega), if_pos rfl]
              rfl
            · rw [rowOf_snoc]
              unfold one1
              by_cases e : (j : Int) = (a : Int)
              · rw [if_pos e, if_pos (by simp only; omega), if_neg (by simp only; omega)]
                simp
              · rw [if_neg e, if_neg (by simp only; omega), if_neg (by simp only; omega)]
                simp
          simp [prD, pr]
          refine ⟨a, ixN_nat (by rw [tbl_len]; exact ha), _, tbl_at ha, by rw [List.length_map]; exact lt_size (by have := l1 a; omega), ?_⟩
          rw [s1]
          refine ⟨b, ixN_nat (by rw [tbl_len]; exact hb), (rowOf dn b).map PyData.int, ?_, by rw [List.length_map]; exact lt_size (by have := l1 b; omega), ?_⟩
          · rw [tbl_at hb, if_neg (by omega)]
          · rw [s2]
            exact hR _ ⟨dn ++ [((a : Int), (b : Int))], rs, .no, .no, by rw [e1]; simp, rfl, rfl⟩
  simp [fn_e_neighbour_table]
  refine ⟨by omega, ?_⟩
  have e1 : (upto 0 (c - 1)).map sideF = ((List.range (c - 1)).map fun (k : Nat) => ((k : Int), (k : Int) + 1)).map prD := by
    rw [upto_map, List.map_map, List.map_map]
    apply List.map_congr_left
    intro k _
    simp [sideF]
  refine lcG_map sideF _ _ (fun d hd R hR => ?_) (by rw [upto_len]; exact le_size (by simp; omega)) ?_
  · rw [upto_map] at hd
    obtain ⟨k, _, rfl⟩ := List.mem_map.mp hd
    simp [tgI]
    simpa [sideF, prD, pr] using hR
  · have epl : pairsL c ps = ((List.range (c - 1)).map fun (k : Nat) => ((k : Int), (k : Int) + 1)) ++ ps ++ (if 2 < c then [(0, (c : Int) - 1)] else []) := rfl
    have hA : ((List.range (c - 1)).map fun (k : Nat) => ((k : Int), (k : Int) + 1)).length ≤ 60 := by simp; omega
    generalize ((List.range (c - 1)).map fun (k : Nat) => ((k : Int), (k : Int) + 1)) = A at e1 epl hA
    rw [List.nil_append, e1]
    simp
    refine ⟨le_size (by omega), ?_⟩
    rw [← List.map_append, asgn_l rfl (noLs_prs _)]
    by_cases c2 : 2 < c
    · have c3 : (2 : Int) < c := by omega
      rw [if_pos c2] at epl
      simp [c3]
      refine ⟨lt_size (by omega), ?_⟩
      rw [epl] at key
      simpa [prD, pr] using key
    · have c3 : ¬ (2 : Int) < c := by omega
      rw [if_neg c2, List.append_nil] at epl
      simp [c3]
      rw [epl] at key
      simpa using key
def lenF (d : D) : D := match d with
  | .list ds => .int ((ds.length : Int) - 1)
  | d => d
/-- a cutting's price list, raised by one -/
def deg (c : Nat) (ps : List Pr2) (k : Int) : Nat := (rowOf (pairsL c ps) k).length
theorem price_list {n c : Nat} {ps : List Pr2} {Q : QD} {E : Ex} (ct : Cut c ps) (h : Q (.list ((List.range c).map fun (k : Nat) => .int ((deg c ps k : Int) - 1)))) : W (n + 2) f_e_price_list [cutD c ps] Q E := by
  refine wC_of (fn := fn_e_price_list) rfl rfl ?_
  have h60 := ct.n60
  simp [fn_e_price_list]
  refine neighbour_table ct ?_
  simp
  refine lcG_map lenF _ _ (fun d hd R hR => ?_) (by simp; exact le_size (by omega)) ?_
  · obtain ⟨k, _, rfl⟩ := List.mem_map.mp hd
    simp [frzIt, nms, nmsL, tgI]
    simpa [lenF] using hR
  · rw [List.nil_append, List.map_map]
    have e : (lenF ∘ fun (k : Nat) => PyData.list ((isort leI (rowOf (pairsL c ps) k)).map PyData.int)) = fun (k : Nat) => .int ((deg c ps k : Int) - 1) := by
      funext k
      simp only [Function.comp, lenF, List.length_map]
      rw [isort_perm.length_eq]
      rfl
    rw [e]
    exact h
theorem ends_sides : ∀ (m : Nat) (k : Int), endsN ((List.range m).map fun (j : Nat) => ((j : Int), (j : Int) + 1)) k = (if 0 ≤ k ∧ k < m then 1 else 0) + (if 1 ≤ k ∧ k ≤ m then 1 else 0)
  | 0, k => by
    rw [if_neg (by omega), if_neg (by omega)]
    rfl
  | m + 1, k => by
    rw [List.range_succ, List.map_append, endsN_app, ends_sides m k]
    simp only [List.map_cons, List.map_nil, endsN]
    repeat' split
    all_goals omega
theorem deg_eq {c : Nat} {ps : List Pr2} (ct : Cut c ps) {k : Int} (h0 : 0 ≤ k) (h1 : k < c) : deg c ps k = endsN ps k + (if c = 2 then 1 else 2) := by
  have h2 := ct.n2
  unfold deg
  rw [rowOf_len]
  unfold pairsL
  rw [endsN_app, endsN_app, ends_sides]
  have e0 : (2 < c → endsN (if 2 < c then [((0 : Int), (c : Int) - 1)] else []) k = (if 0 = k then 1 else 0) + (if (c : Int) - 1 = k then 1 else 0)) ∧ (¬ 2 < c → endsN (if 2 < c then [((0 : Int), (c : Int) - 1)] else []) k = 0) := ⟨fun h => by rw [if_pos h]; simp [endsN], fun h => by rw [if_neg h]; rfl⟩
  have e1 : ((c - 1 : Nat) : Int) = (c : Int) - 1 := by omega
  rw [e1]
  by_cases c2 : 2 < c
  · rw [e0.1 c2]
    repeat' split
    all_goals omega
  · rw [e0.2 c2]
    repeat' split
    all_goals omega
theorem ends2 {ps : List Pr2} (ct : Cut 2 ps) {k : Int} : endsN ps k = 0 := by
  cases ps with
  | nil => rfl
  | cons p ps =>
    have := ct.inb (p := p) List.mem_cons_self
    omega
end K30.P

set_option maxHeartbeats 1000000
/-! k30: what the program tells of a cutting. -/
namespace K30.P
open PySem Uq
def fanP (c : Nat) (i : Int) : List Pr2 := (List.range c).map fun (j : Nat) => (i, (j : Int))
theorem fan_ok {n c : Nat} {i : Int} {Q : QD} {E : Ex} (hc : 2 ≤ c) (hc2 : c ≤ 60) (hi : 0 ≤ i) (hi2 : i < c) (h : Q (cutD c (cutOf c (fanP c i)))) : W (n + 5) f_fan [.int c, .int i] Q E := by
  refine wC_of (fn := fn_fan) rfl rfl ?_
  simp [fn_fan]
  refine need_below hc hi hi2 ?_
  refine ⟨by omega, ?_⟩
  refine lcG_map (fun d => .tuple [.int i, d]) _ _ (fun d hd R hR => ?_) (by rw [upto_len]; exact le_size (by simp; omega)) ?_
  · simp [tgI]
    exact hR
  · have e : (upto 0 c).map (fun d => (.tuple [.int i, d] : D)) = (fanP c i).map prD := by
      rw [upto_map]
      unfold fanP
      rw [List.map_map, List.map_map]
      apply List.map_congr_left
      intro k _
      simp [prD, pr]
    rw [List.nil_append, e]
    refine e_cutting_of (by simp [fanP]; omega) (fun p hp => ?_) h
    obtain ⟨k, _, rfl⟩ := List.mem_map.mp hp
    exact ⟨hi, by simp⟩
/-- the chords' ends, corner by corner -/
def rowL (c : Nat) (ps : List Pr2) : List Int := (List.range c).map fun (k : Nat) => (endsN ps k : Int)
def fcF (c : Nat) (ps : List Pr2) (m : Int) : Int := m / c * (rowL c ps).sum + ((rowL c ps).take (m % c).toNat).sum
def fjF (c : Nat) (ps : List Pr2) (m : Int) : Int := if m = 0 ∨ c = 2 then 0 else m + c - 3 + fcF c ps (m - 1)
def prF (c : Nat) (ps : List Pr2) (k : Int) : Int := (deg c ps k : Int) - 1
def apF (c : Nat) (ps : List Pr2) (a : Int) : Int := if a = 0 then (c : Int) - 2 else prF c ps ((a - 1) % c)
def sjF (c : Nat) (ps : List Pr2) (s : Int) : Int := if (c : Int) ≤ s then prF c ps (s % c) else ((rowOf (pairsL c ps) s).filter fun x => decide (x < s - 1)).length
def lfF (w m : Int) : Int := if m = 0 ∨ w = 1 then 0 else m + (w - 2) * (1 + 2 * ((m - 1) / (w + 1))) + (if (m - 1) % (w + 1) = w then w - 2 else max 0 ((m - 1) % (w + 1) - 1))
theorem sum_le : ∀ {l : List Int} {b : Int}, (∀ x ∈ l, 0 ≤ x ∧ x ≤ b) → 0 ≤ l.sum ∧ l.sum ≤ l.length * b
  | [], b, _ => by simp
  | x :: l, b, h => by
    have h1 := h x List.mem_cons_self
    have h2 := sum_le (l := l) (b := b) fun y hy => h y (List.mem_cons_of_mem _ hy)
    rw [List.sum_cons, List.length_cons]
    have e : ((l.length + 1 : Nat) : Int) * b = (l.length : Int) * b + b := by rw [Int.natCast_add, Int.add_mul]; simp
    rw [e]
    omega
theorem rowL_in {c : Nat} {ps : List Pr2} (ct : Cut c ps) : ∀ x ∈ rowL c ps, 0 ≤ x ∧ x ≤ 7200 := fun x hx => by
  obtain ⟨k, _, rfl⟩ := List.mem_map.mp hx
  have h1 := endsN_le (l := ps) (k := (k : Int))
  have h2 := ct.len
  omega
theorem rowL_sum {c : Nat} {ps : List Pr2} (ct : Cut c ps) : 0 ≤ (rowL c ps).sum ∧ (rowL c ps).sum ≤ 432000 := by
  have h1 := sum_le (rowL_in ct)
  have h2 := ct.n60
  have e : (rowL c ps).length = c := by simp [rowL]
  rw [e] at h1
  have : (c : Int) * 7200 ≤ 432000 := by omega
  omega
def mxF (d : D) : D := match d with
  | .int i => .int (if 1 < i then i - 1 else 0)
  | d => d
theorem first_chords {n c : Nat} {ps : List Pr2} {m : Int} {Q : QD} {E : Ex} (ct : Cut c ps) (hm : 0 ≤ m) (h : Q (.int (fcF c ps m))) : W (n + 8) f_first_chords [cutD c ps, .int m] Q E := by
  refine wC_of (fn := fn_first_chords) rfl rfl ?_
  have h2 := ct.n2
  have h60 := ct.n60
  have hl := ct.len
  simp [fn_first_chords]
  refine need_cutting ct ?_
  refine need_number hm ?_
  refine price_list ct ?_
  simp
  refine lcG_map mxF _ _ (fun d hd R hR => ?_) (by simp; exact le_size (by omega)) ?_
  · obtain ⟨k, _, rfl⟩ := List.mem_map.mp hd
    simp [frzIt, nms, nmsL, tgI]
    exact hR
  · have e : ((List.range c).map fun (k : Nat) => PyData.int ((deg c ps k : Int) - 1)).map mxF = (rowL c ps).map PyData.int := by
      unfold rowL
      rw [List.map_map, List.map_map]
      apply List.map_congr_left
      intro k hk
      rw [List.mem_range] at hk
      have := deg_eq ct (k := (k : Int)) (by omega) (by omega)
      simp only [Function.comp, mxF]
      by_cases c2 : c = 2
      · subst c2
        rw [if_pos rfl, ends2 ct] at this
        rw [this, ends2 ct]
        rfl
      · rw [if_neg c2] at this
        congr 1
        omega
    rw [List.nil_append, e, asgn_l rfl (noLs_ints _)]
    have hs := rowL_sum ct
    simp
    refine ⟨⟨by omega, by omega⟩, ?_⟩
    refine ⟨rowL c ps, ints_back _, ?_⟩
    refine ⟨mul_r (by omega) (by omega), ?_⟩
    have hm2 := Int.emod_nonneg m (show (c : Int) ≠ 0 by omega)
    rw [cut_to hm2, ← List.map_take]
    refine ⟨_, ints_back _, ?_⟩
    exact h
theorem first_joins {n c : Nat} {ps : List Pr2} {m : Int} {Q : QD} {E : Ex} (ct : Cut c ps) (hm : 0 ≤ m) (h : Q (.int (fjF c ps m))) : W (n + 9) f_first_joins [cutD c ps, .int m] Q E := by
  refine wC_of (fn := fn_first_joins) rfl rfl ?_
  simp [fn_first_joins]
  refine need_cutting (n := n + 1) ct ?_
  refine need_number (n := n + 5) hm ?_
  unfold fjF at h
  by_cases h0 : m = 0
  · rw [if_pos (.inl h0)] at h
    simp [h0]
    exact h
  · by_cases hc : c = 2
    · rw [if_pos (.inr hc)] at h
      simp [h0, hc]
      exact h
    · rw [if_neg (by omega)] at h
      have hc' : ¬ (c : Int) = 2 := by omega
      simp [h0, hc']
      exact first_chords ct (by omega) h
theorem prices_at {c : Nat} {ps : List Pr2} {j : Int} (h0 : 0 ≤ j) (h1 : j < c) : L2.atI ((List.range c).map fun (k : Nat) => PyData.int ((deg c ps k : Int) - 1)) j = some (.int (prF c ps j)) := by
  obtain ⟨k, rfl⟩ := Int.eq_ofNat_of_zero_le h0
  exact atI_nat (by simp [show k < c by omega, prF])
theorem rows_at {c : Nat} {ps : List Pr2} {j : Int} (h0 : 0 ≤ j) (h1 : j < c) : L2.atI ((List.range c).map fun (k : Nat) => PyData.list ((isort leI (rowOf (pairsL c ps) k)).map PyData.int)) j = some (.list ((isort leI (rowOf (pairsL c ps) j)).map PyData.int)) := by
  obtain ⟨k, rfl⟩ := Int.eq_ofNat_of_zero_le h0
  exact atI_nat (by simp [show k < c by omega])
theorem answer_price {n c : Nat} {ps : List Pr2} {m : Int} {Q : QD} {E : Ex} (ct : Cut c ps) (hm : 0 ≤ m) (h : Q (.int (apF c ps m))) : W (n + 8) f_answer_price [cutD c ps, .int m] Q E := by
  refine wC_of (fn := fn_answer_price) rfl rfl ?_
  have h2 := ct.n2
  simp [fn_answer_price]
  refine need_cutting ct ?_
  refine need_number (n := n + 4) hm ?_
  unfold apF at h
  by_cases h0 : m = 0
  · rw [if_pos h0] at h
    simp [h0]
    exact h
  · rw [if_neg h0] at h
    simp [h0]
    refine price_list (n := n + 5) ct ?_
    have e := Int.fmod_eq_emod_of_nonneg (m - 1) (b := (c : Int)) (by omega)
    have e1 := Int.emod_nonneg (m - 1) (show (c : Int) ≠ 0 by omega)
    have e2 := Int.emod_lt_of_pos (m - 1) (show (0 : Int) < c by omega)
    refine ⟨by omega, ?_⟩
    rw [e, ixR_l, prices_at e1 e2]
    exact h
theorem step_joins {n c : Nat} {ps : List Pr2} {s : Int} {Q : QD} {E : Ex} (ct : Cut c ps) (hs : 1 ≤ s) (h : Q (.int (sjF c ps s))) : W (n + 8) f_step_joins [cutD c ps, .int s] Q E := by
  refine wC_of (fn := fn_step_joins) rfl rfl ?_
  have h2 := ct.n2
  simp [fn_step_joins]
  refine need_cutting ct ?_
  refine is_integer (n := n + 6) rfl ?_
  have hs' : ¬ s < 1 := by omega
  simp [isInt, hs']
  refine neighbour_table (n := n + 6) ct ?_
  have e := Int.fmod_eq_emod_of_nonneg s (b := (c : Int)) (by omega)
  have e1 := Int.emod_nonneg s (show (c : Int) ≠ 0 by omega)
  have e2 := Int.emod_lt_of_pos s (show (0 : Int) < c by omega)
  refine ⟨by omega, ?_⟩
  rw [e, ixR_l, rows_at e1 e2]
  unfold sjF at h
  simp [asgn_ff, nms, nmsL]
  by_cases hc : (c : Int) ≤ s
  · rw [if_pos hc] at h
    simp [hc]
    have : (isort leI (rowOf (pairsL c ps) (s % c))).length = deg c ps (s % c) := isort_perm.length_eq
    rw [this]
    exact h
  · rw [if_neg hc] at h
    have es : s % (c : Int) = s := Int.emod_eq_of_lt (by omega) (by omega)
    rw [es]
    simp [hc]
    have hle : (isort leI (rowOf (pairsL c ps) s)).length ≤ 20000 := by
      rw [isort_perm.length_eq, rowOf_len]
      have h1 := endsN_le (l := pairsL c ps) (k := s)
      have h3 := ct.len
      have h4 := ct.n60
      have : (pairsL c ps).length ≤ 10000 := by
        unfold pairsL
        split <;> simp only [List.length_append, List.length_map, List.length_range, List.length_singleton, List.length_nil] <;> omega
      omega
    refine lcG_filt (fun d => d) (fun d => match d with
      | .int x => decide (x < s - 1)
      | _ => false) _ _ (fun d hd R N h1 h2 => ?_) (by simp; exact le_size (by omega)) ?_
    · obtain ⟨x, _, rfl⟩ := List.mem_map.mp hd
      simp only at h1 h2
      by_cases hx : x < s - 1
      · simpa [frzIt, nms, nmsL, tgI, hx] using h1 (decide_eq_true hx)
      · simpa [frzIt, nms, nmsL, tgI, hx] using h2 (decide_eq_false hx)
    · rw [List.nil_append, List.map_id'', List.filter_map, biR_lenL, List.length_map]
      · have e3 : (isort leI (rowOf (pairsL c ps) s)).filter ((fun d : D => match d with
            | .int x => decide (x < s - 1)
            | _ => false) ∘ PyData.int) = (isort leI (rowOf (pairsL c ps) s)).filter fun x => decide (x < s - 1) := rfl
        rw [e3, (isort_perm.filter _).length_eq]
        exact h
      · exact fun _ => rfl
theorem least_first {n : Nat} {w m : Int} {Q : QD} {E : Ex} (hw : 1 ≤ w) (hw2 : w ≤ 100) (hm : 0 ≤ m) (h : Q (.int (lfF w m))) : W (n + 4) f_least_first [.int w, .int m] Q E := by
  refine wC_of (fn := fn_least_first) rfl rfl ?_
  have hw' : ¬ w < 1 := by omega
  simp [fn_least_first]
  refine is_integer (n := n + 2) rfl ?_
  simp [isInt, hw']
  refine need_number hm ?_
  unfold lfF at h
  by_cases h0 : m = 0
  · rw [if_pos (.inl h0)] at h
    simp [h0]
    exact h
  · by_cases h1 : w = 1
    · rw [if_pos (.inr h1)] at h
      simp [h0, h1]
      exact h
    · rw [if_neg (by omega)] at h
      simp [h0, h1]
      refine ⟨⟨by omega, by omega⟩, ?_⟩
      by_cases h2 : (m - 1) % (w + 1) = w
      · rw [if_pos h2] at h
        simp [h2]
        exact ⟨mul_l (by decide) (by decide), mul_l (by omega) (by omega), h⟩
      · rw [if_neg h2] at h
        simp [h2]
        have e : (if 1 < (m - 1) % (w + 1) then (m - 1) % (w + 1) - 1 else 0) = max 0 ((m - 1) % (w + 1) - 1) := by omega
        rw [e]
        exact ⟨mul_l (by decide) (by decide), mul_l (by omega) (by omega), h⟩
theorem over_least {n c : Nat} {ps : List Pr2} {m : Int} {Q : QD} {E : Ex} (ct : Cut c ps) (hm : 0 ≤ m) (h : Q (.int (fjF c ps m - lfF ((c : Int) - 1) m))) : W (n + 10) f_over_least [cutD c ps, .int m] Q E := by
  refine wC_of (fn := fn_over_least) rfl rfl ?_
  have h2 := ct.n2
  have h60 := ct.n60
  simp [fn_over_least]
  refine need_cutting (n := n + 2) ct ?_
  refine need_number (n := n + 6) hm ?_
  refine first_joins ct hm ?_
  refine least_first (n := n + 5) (by omega) (by omega) hm ?_
  exact h
theorem eqv_prs : ∀ {a b : List Pr2}, PyData.eqvAll (a.map prD) (b.map prD) = decide (a = b)
  | [], [] => rfl
  | [], _ :: _ => by simp [PyData.eqvAll]
  | _ :: _, [] => by simp [PyData.eqvAll]
  | p :: a, q :: b => by
    rw [List.map_cons, List.map_cons]
    simp only [PyData.eqvAll]
    rw [eqv_prs]
    have e := eqv_pr (a := p.1) (b := p.2) (c := q.1) (d := q.2)
    have : PyData.eqv (prD p) (prD q) = decide (p = q) := by
      rw [show prD p = pr p.1 p.2 from rfl, show prD q = pr q.1 q.2 from rfl, e]
      refine decide_eq_decide.mpr ?_
      exact ⟨fun h => Prod.ext h.1 h.2, fun h => by rw [h]; exact ⟨rfl, rfl⟩⟩
    rw [this]
    by_cases h1 : p = q <;> by_cases h2 : a = b <;> simp [h1, h2]
theorem eqv_cut {c : Nat} {a b : List Pr2} : PyData.eqv (cutD c a) (cutD c b) = decide (a = b) := by
  simp only [PyData.eqv, PyData.eqvAll]
  rw [eqv_prs]
  simp
theorem sh_cut {c : Nat} {a : List Pr2} : sh (cutD c a) := shd_sh (k := 3) (shd_pair shd_int (shd_prs (k := 0))) (by decide)
theorem is_least {n c : Nat} {ps : List Pr2} {Q : QD} {E : Ex} (ct : Cut c ps) (h : Q (.bool (decide (ps = cutOf c (fanP c ((c : Int) - 1)))))) : W (n + 8) f_is_least_always [cutD c ps] Q E := by
  refine wC_of (fn := fn_is_least_always) rfl rfl ?_
  have h2 := ct.n2
  have h60 := ct.n60
  simp [fn_is_least_always]
  refine need_cutting ct ?_
  refine fan_ok (n := n + 2) h2 h60 (by omega) (by omega) ?_
  refine ⟨⟨sh_cut, sh_cut⟩, ?_⟩
  rw [eqv_cut]
  exact h
end K30.P

set_option maxHeartbeats 2000000
/-! k30: the law's draws. -/
namespace K30.P
open PySem Uq
theorem lk_at {ns : List Int} {k : Nat} (h : k < ns.length) : L2.atI (ns.map PyData.int) (k : Int) = some (.int ns[k]) := atI_nat (by simp [h])
theorem law_base {n : Nat} {ns : List Int} {Q : QD} {E : Ex} (hl : ns.length ≤ 63) (h : ∀ b : Int, 0 ≤ b → b < 2147483543 → Q (.int b)) : W (n + 1) f__law_base [lk ns] Q E := by
  refine wC_of (fn := fn__law_base) rfl rfl ?_
  simp [fn__law_base]
  refine ⟨by omega, ?_⟩
  rw [show upto 0 ns.length = upto (0 + ((0 : Nat) : Int)) ns.length from rfl]
  refine frW_upto (lo := 0) (m := ns.length) (I := fun k ρ => ∃ b s2 s3, 0 ≤ b ∧ b < 2147483543 ∧ ρ = [.va (lk ns), .va (.int b), s2, s3]) ?_ ?_ ns.length 0 _ (by omega) ⟨55333, .no, .no, by decide, by decide, rfl⟩
  · rintro ρ ⟨b, s2, s3, b0, b1, rfl⟩
    simp
    exact h b b0 b1
  · rintro k ρ R hk ⟨b, s2, s3, b0, b1, rfl⟩ hR
    have e := lk_at hk
    have fin : ∀ x : Int, R [.va (lk ns), .va (.int (x.fmod 2147483543)), .no, .no] := fun x => hR _ ⟨_, _, _, (fmod_in (by decide)).1, (fmod_in (by decide)).2, rfl⟩
    by_cases hc : ns[k] < 0
    · simp [e, hc]
      exact ⟨mul_l (by decide) (by decide), mul_r (by decide) (by decide), mul_l (by decide) (by decide), fin _⟩
    · simp [e, hc]
      exact ⟨mul_r (by decide) (by decide), mul_l (by decide) (by decide), fin _⟩
/-- numbers below b -/
abbrev Bel (b : Int) (xs : List Int) : Prop := ∀ x ∈ xs, 0 ≤ x ∧ x < b
theorem law_rows {n s : Nat} {ns : List Int} {b p lim : Int} {Q : QD} {E : Ex} (hl : ns.length ≤ 63) (hb : 0 ≤ b) (hb2 : b < 2147483543) (hp : 0 ≤ p) (hp2 : p ≤ 100) (hs : s ≤ 1000) (hm : 0 < lim) (hm2 : lim < 2147483648) (h : ∀ xs : List Int, xs.length = s → Bel lim xs → Q (.list (xs.map .int))) : W (n + 1) f__law_rows [lk ns, .int b, .int p, .int s, .int lim] Q E := by
  refine wC_of (fn := fn__law_rows) rfl rfl ?_
  have hlim := log_small hm hm2
  have hne : lim ≠ 0 := by omega
  have loop : ∀ (c : Int) (dp : Bool), 0 ≤ c → wSs ⟨wC T sub flds n, sub, flds⟩ (fn__law_rows.body.drop 4) [.va (lk ns), .va (.int b), .va (.int p), .va (.int s), .va (.int lim), .va (.int c), .va (.bool dp), .no, .no, .no] ⟨fun _ => Q .none, Q, fun _ => False, fun _ => False, fun c fs _ => E c fs⟩ := fun c dp hc => by
    simp [fn__law_rows]
    refine ⟨by omega, ?_⟩
    rw [show upto 0 s = upto (0 + ((0 : Nat) : Int)) s from rfl]
    refine frW_upto (lo := 0) (m := s) (I := fun k ρ => ∃ xs c s8 s9, xs.length = k ∧ Bel lim xs ∧ ρ = [.va (lk ns), .va (.int b), .va (.int p), .va (.int s), .va (.int lim), .va (.int c), .va (.bool dp), .ol (xs.map PyData.int), s8, s9]) ?_ ?_ s 0 _ (by omega) ⟨[], c, .no, .no, rfl, (fun x hx => absurd hx List.not_mem_nil), rfl⟩
    · rintro ρ ⟨xs, c, s8, s9, e, hx, rfl⟩
      simp
      exact h xs e hx
    · rintro k ρ R hk ⟨xs, c, s8, s9, e, hx, rfl⟩ hR
      have grow : ∀ x : Int, Bel lim (xs ++ [x.fmod lim]) := fun x y hy => (List.mem_append.mp hy).elim (hx y) fun z => by rw [List.mem_singleton.mp z]; exact fmod_in hm
      have fin : ∀ (x c' : Int), R [.va (lk ns), .va (.int b), .va (.int p), .va (.int s), .va (.int lim), .va (.int c'), .va (.bool dp), .ol (xs.map PyData.int ++ [.int (x.fmod lim)]), .no, .no] := fun x c' => hR _ ⟨xs ++ [x.fmod lim], c', .no, .no, by simp [e], grow x, by simp⟩
      have small : ∀ y m : Int, 0 < m → m < 2147483648 → MulOk (y.fmod m) (y.fmod m) := fun y m h0 h1 => by
        have := fmod_in (a := y) h0
        exact mul_l (by omega) (by omega)
      by_cases h2 : dp = true ∧ 0 < c
      · simp [h2.1, h2.2, hne]
        refine ⟨lt_size (by omega), hlim, ?_⟩
        have z := fin c (c.fdiv lim)
        rw [h2.1] at z
        exact z
      · have e2 : (dp && decide (0 < c)) = false := by
          cases dp
          · rfl
          · simp only [true_and] at h2
            simp [h2]
        have tail : wSs ⟨wC T sub flds n, sub, flds⟩ [.asg 9 (.bin .mod (.bi .int [(.bin .add (.bin .add (.var 1) (.bin .mul (.int 7489) (.var 2))) (.bin .mul (.int 104395301) (.var 8)))]) (.int 2147483549)), .asg 9 (.bin .mod (.bi .int [(.bin .add (.bin .add (.bin .mul (.var 9) (.var 9)) (.bin .mul (.int 41) (.var 8))) (.int 3))]) (.int 2147483629)), .asg 9 (.bin .mod (.bi .int [(.bin .add (.bin .mul (.var 9) (.var 9)) (.var 1))]) (.int 2147483579)), .app 7 (.bin .mod (.bi .int [(.var 9)]) (.var 4)), .kil [8, 9]]
            [.va (lk ns), .va (.int b), .va (.int p), .va (.int s), .va (.int lim), .va (.int c), .va (.bool dp), .ol (xs.map PyData.int), .va (.int k), s9] ⟨R, Q, fun _ => False, R, fun c fs _ => E c fs⟩ := by
          simp [hne]
          refine ⟨mul_l (by decide) (by decide), mul_l (by decide) (by decide), small _ _ (by decide) (by decide), mul_l (by decide) (by decide), small _ _ (by decide) (by decide), lt_size (by omega), ?_⟩
          exact fin _ c
        cases dp with
        | false =>
          simp at tail ⊢
          exact tail
        | true =>
          have h3 : ¬ 0 < c := fun z => h2 ⟨rfl, z⟩
          simp [h3] at tail ⊢
          exact tail
  have pow : (10 : Int) ^ 18 = 1000000000000000000 := by decide
  have first : ∀ c : Int, wSs ⟨wC T sub flds n, sub, flds⟩ (fn__law_rows.body.drop 2) [.va (lk ns), .va (.int b), .va (.int p), .va (.int s), .va (.int lim), .va (.int c), .no, .no, .no, .no] ⟨fun _ => Q .none, Q, fun _ => False, fun _ => False, fun c fs _ => E c fs⟩ := fun c => by
    by_cases hc : c < 0
    · have l := loop (17 - 2 * c) (decide ((10 : Int) ^ 18 ≤ 17 - 2 * c)) (by omega)
      simp [fn__law_rows, hc]
      refine ⟨mul_l (by decide) (by decide), ?_⟩
      simpa [fn__law_rows] using l
    · have l := loop c (decide ((10 : Int) ^ 18 ≤ c)) (by omega)
      simp [fn__law_rows, hc]
      simpa [fn__law_rows] using l
  by_cases hk : p < ns.length
  · obtain ⟨k, rfl⟩ := Int.eq_ofNat_of_zero_le hp
    have e := lk_at (ns := ns) (k := k) (by omega)
    have f := first ns[k]
    have hk' : k < ns.length := by omega
    simp [fn__law_rows, hk', e]
    simpa [fn__law_rows] using f
  · have f := first 0
    simp [fn__law_rows, hk]
    simpa [fn__law_rows] using f
theorem same : ∀ (k : Nat) {n : Nat} {d : D} {Q : QD} {E : Ex}, short k d → Q (.bool true) → W (n + k + 1) f__law_same [d, d] Q E := by
  intro k
  induction k with
  | zero =>
    intro n d Q E hs h
    refine wC_of (fn := fn__law_same) rfl rfl ?_
    cases d <;> first | exact hs.elim | skip
    all_goals simp [fn__law_same]
    all_goals first | exact h | exact cmp_eq_b (by simpa using h)
  | succ k ih =>
    intro n d Q E hs h
    refine wC_of (fn := fn__law_same) rfl rfl ?_
    cases d with
    | tuple ds =>
      obtain ⟨hl, hx⟩ := hs
      simp [fn__law_same]
      refine ⟨by omega, ?_⟩
      rw [show upto 0 ds.length = upto (0 + ((0 : Nat) : Int)) ds.length from rfl]
      refine frW_upto (lo := 0) (m := ds.length) (I := fun k ρ => ∃ s2, ρ = [.va (.tuple ds), .va (.tuple ds), s2]) ?_ ?_ ds.length 0 _ (by omega) ⟨.no, rfl⟩
      · rintro ρ ⟨s2, rfl⟩
        simp
        exact h
      · rintro j ρ R hj ⟨s2, rfl⟩ hR
        have hat : L2.atI ds (j : Int) = some ds[j] := atI_nat (by simp [hj])
        simp [hat]
        refine ih (hx _ (List.getElem_mem hj)) ?_
        simp
        exact hR _ ⟨_, rfl⟩
    | list _ => exact hs.elim
    | dict _ => exact hs.elim
    | _ =>
      simp [fn__law_same]
      first | exact h | exact cmp_eq_b (by simpa using h)
/-- the same int -/
theorem same_int {n : Nat} {a b : Int} {Q : QD} {E : Ex} (e : a = b) (h : Q (.bool true)) : W (n + 1) f__law_same [.int a, .int b] Q E := by
  subst e
  exact same 0 (n := n) short_int h
theorem same_bool {n : Nat} {a b : Bool} {Q : QD} {E : Ex} (e : a = b) (h : Q (.bool true)) : W (n + 1) f__law_same [.bool a, .bool b] Q E := by
  subst e
  exact same 0 (n := n) short_bool h
end K30.P

set_option maxHeartbeats 2000000
/-! k30: ends, rounds, costs, fans of the law. -/
namespace K30.P
open PySem Uq
theorem range_set {α : Type} {n a : Nat} {f : Nat → α} {v : α} (h : a < n) : ((List.range n).map f).set a v = (List.range n).map fun k => if k = a then v else f k := by
  apply List.ext_getElem?
  intro j
  by_cases ej : a = j
  · subst ej
    rw [List.getElem?_set_self (by simpa using h)]
    simp [h]
  · rw [List.getElem?_set_ne ej]
    by_cases hj : j < n
    · simp [hj]
      exact fun z => absurd z.symm ej
    · rw [List.getElem?_eq_none (by simp; omega), List.getElem?_eq_none (by simp; omega)]
theorem range_at {n a : Nat} {f : Nat → Int} (h : a < n) : L2.atI ((List.range n).map fun k => PyData.int (f k)) (a : Int) = some (.int (f a)) := atI_nat (by simp [h])
theorem law_ends {n c : Nat} {ps : List Pr2} {d : D} {Q : QD} {E : Ex} (hd : d = .tuple (ps.map prD) ∨ d = .list (ps.map prD)) (hc : c ≤ 100) (hp : ∀ p ∈ ps, 0 ≤ p.1 ∧ p.1 < p.2 ∧ p.2 < c) (h : Q (.list ((rowL c ps).map PyData.int))) : W (n + 1) f__law_ends [.int c, d] Q E := by
  refine wC_of (fn := fn__law_ends) rfl rfl ?_
  have main : wSs ⟨wC T sub flds n, sub, flds⟩ (fn__law_ends.body.drop 1) [.va (.int c), .va d, .ol ((List.range c).map fun _ => PyData.int 0), .no, .no, .no] ⟨fun _ => Q .none, Q, fun _ => False, fun _ => False, fun c fs _ => E c fs⟩ := by
    simp [fn__law_ends]
    have it : ∀ R : List D → Prop, R (ps.map prD) → itR .val [d] R := fun R hR => by
      rcases hd with rfl | rfl <;> exact hR
    refine it _ ?_
    refine frW_ind (I := fun es ρ => ∃ dn rs s3 s4 s5, ps = dn ++ rs ∧ es = rs.map prD ∧ ρ = [.va (.int c), .va d, .ol ((List.range c).map fun (k : Nat) => PyData.int (endsN dn k)), s3, s4, s5]) ?_ ?_ _ _ ⟨[], ps, .no, .no, .no, rfl, rfl, by simp [frzIt, nms, nmsL, endsN]⟩
    · rintro ρ ⟨dn, rs, s3, s4, s5, e1, e2, rfl⟩
      have : rs = [] := by
        cases rs with
        | nil => rfl
        | cons _ _ => cases e2
      subst this
      rw [List.append_nil] at e1
      subst e1
      simp
      have e : (rowL c ps).map PyData.int = (List.range c).map fun (k : Nat) => PyData.int (endsN ps k) := by
        unfold rowL
        rw [List.map_map]
        rfl
      rw [e] at h
      exact h
    · rintro x es ρ R ⟨dn, rs, s3, s4, s5, e1, e2, rfl⟩ hR
      cases rs with
      | nil => cases e2
      | cons p rs =>
        cases e2
        obtain ⟨b0, b1, b2⟩ := hp p (by rw [e1]; simp)
        obtain ⟨p1, p2⟩ := p
        obtain ⟨a, rfl⟩ := Int.eq_ofNat_of_zero_le b0
        obtain ⟨b, rfl⟩ := Int.eq_ofNat_of_zero_le (show 0 ≤ p2 by simp only at b1; omega)
        simp only at b1 b2
        have ha : a < c := by omega
        have hb : b < c := by omega
        have hab : b ≠ a := by omega
        simp [prD, pr, range_at ha]
        refine ⟨a, ixN_nat (by simpa using ha), ?_⟩
        rw [range_set ha]
        have e3 : L2.atI ((List.range c).map fun (k : Nat) => if k = a then PyData.int ((endsN dn a : Int) + 1) else PyData.int (endsN dn k)) (b : Int) = some (.int (endsN dn b)) := atI_nat (by simp [hb, hab])
        simp [e3]
        refine ⟨b, ixN_nat (by simpa using hb), ?_⟩
        rw [range_set hb]
        have e4 : ((List.range c).map fun (k : Nat) => if k = b then PyData.int ((endsN dn b : Int) + 1) else if k = a then PyData.int ((endsN dn a : Int) + 1) else PyData.int (endsN dn k)) = (List.range c).map fun (k : Nat) => PyData.int (endsN (dn ++ [((a : Int), (b : Int))]) k) := by
          apply List.map_congr_left
          intro k _
          rw [endsN_app]
          simp only [endsN]
          by_cases k1 : k = b
          · subst k1
            rw [if_pos rfl, if_neg (by omega), if_pos rfl]
            rfl
          · by_cases k2 : k = a
            · subst k2
              rw [if_neg k1, if_pos rfl, if_pos rfl, if_neg (by omega)]
              rfl
            · rw [if_neg k1, if_neg k2, if_neg (by omega), if_neg (by omega)]
              rfl
        rw [e4]
        exact hR _ ⟨dn ++ [((a : Int), (b : Int))], rs, _, _, _, by rw [e1]; simp, rfl, rfl⟩
  simp [fn__law_ends]
  refine ⟨by omega, ?_⟩
  refine lcG_map (fun _ => PyData.int 0) _ _ (fun x hx R hR => ?_) (by rw [upto_len]; exact le_size (by simp; omega)) ?_
  · rw [upto_map] at hx
    obtain ⟨k, _, rfl⟩ := List.mem_map.mp hx
    simp
    exact hR
  · have e : ([] : List D) ++ (upto 0 c).map (fun _ => PyData.int 0) = (List.range c).map fun _ => PyData.int 0 := by
      rw [List.nil_append, upto_map, List.map_map]
      rfl
    have en : noLs ((List.range c).map fun _ => PyData.int 0) = true := by
      have := noLs_ints ((List.range c).map fun _ => 0)
      rwa [List.map_map] at this
    rw [e, asgn_l rfl en]
    simpa [fn__law_ends] using main
def roundsF (c : Nat) (xs : List Int) (m : Int) : Int := m / c * xs.sum + (xs.take (m % c).toNat).sum
def costF (c : Nat) (xs : List Int) (m : Int) : Int := if m = 0 ∨ c = 2 then 0 else m + c - 3 + roundsF c xs (m - 1)
theorem fj_cost {c : Nat} {ps : List Pr2} {m : Int} : fjF c ps m = costF c (rowL c ps) m := rfl
theorem law_rounds {n c : Nat} {xs : List Int} {m : Int} {Q : QD} {E : Ex} (h2 : 1 ≤ c) (hc : c ≤ 100) (hx : xs.length = c) (hs : 0 ≤ xs.sum ∧ xs.sum ≤ 10000000) (h : Q (.int (roundsF c xs m))) : W (n + 1) f__law_rounds [.int c, .list (xs.map PyData.int), .int m] Q E := by
  refine wC_of (fn := fn__law_rounds) rfl rfl ?_
  have hlog := log_small (b := (c : Int)) (by omega) (by omega)
  have e0 := Int.fmod_eq_emod_of_nonneg m (b := (c : Int)) (by omega)
  have e1 := Int.emod_nonneg m (show (c : Int) ≠ 0 by omega)
  have e2 := Int.emod_lt_of_pos m (show (0 : Int) < c by omega)
  have e3 := Int.fdiv_eq_ediv_of_nonneg m (b := (c : Int)) (by omega)
  obtain ⟨j, ej⟩ := Int.eq_ofNat_of_zero_le e1
  have hne : ¬ c = 0 := by omega
  have hlog : c.log2 < 9000 := by simpa using hlog
  simp [fn__law_rounds, hne, hlog]
  refine ⟨xs, ints_back _, ?_⟩
  simp
  rw [e0, e3, ej]
  refine ⟨mul_r (by omega) (by omega), ?_⟩
  simp [hne]
  refine ⟨by omega, ?_⟩
  rw [show upto 0 j = upto (0 + ((0 : Nat) : Int)) j from rfl]
  refine frW_upto (lo := 0) (m := j) (I := fun k ρ => ∃ s4, ρ = [.va (.int c), .va (.list (xs.map PyData.int)), .va (.int m), .va (.int (m / c * xs.sum + (xs.take k).sum)), s4]) ?_ ?_ j 0 _ (by omega) ⟨.no, by simp⟩
  · rintro ρ ⟨s4, rfl⟩
    simp
    unfold roundsF at h
    rw [ej] at h
    exact h
  · rintro k ρ R hk ⟨s4, rfl⟩ hR
    have hk2 : k < xs.length := by omega
    have e : L2.atI (xs.map PyData.int) (k : Int) = some (.int xs[k]) := atI_nat (by simp [hk2])
    simp [e]
    refine hR _ ⟨.no, ?_⟩
    have : (xs.take (k + 1)).sum = (xs.take k).sum + xs[k] := by
      rw [List.take_succ_eq_append_getElem hk2, List.sum_append]
      simp
    rw [this, Int.add_assoc]
theorem law_cost {n c : Nat} {xs : List Int} {m : Int} {Q : QD} {E : Ex} (h2 : 1 ≤ c) (hc : c ≤ 100) (hx : xs.length = c) (hs : 0 ≤ xs.sum ∧ xs.sum ≤ 10000000) (h : Q (.int (costF c xs m))) : W (n + 2) f__law_cost [.int c, .list (xs.map PyData.int), .int m] Q E := by
  refine wC_of (fn := fn__law_cost) rfl rfl ?_
  unfold costF at h
  by_cases h0 : m = 0
  · rw [if_pos (.inl h0)] at h
    simp [fn__law_cost, h0]
    exact h
  · by_cases h1 : c = 2
    · rw [if_pos (.inr h1)] at h
      simp [fn__law_cost, h0, h1]
      exact h
    · rw [if_neg (by omega)] at h
      have h1' : ¬ (c : Int) = 2 := by omega
      simp [fn__law_cost, h0, h1']
      exact law_rounds h2 hc hx hs h
theorem rowL_len {c : Nat} {ps : List Pr2} : (rowL c ps).length = c := by simp [rowL]
/-- a fan, as the law makes it -/
def fanB (c at_ : Nat) (k : Nat) : Bool := decide (k ≠ at_ ∧ k ≠ at_ + 1 ∧ at_ ≠ k + 1 ∧ k + 1 ≠ at_ + c ∧ at_ + 1 ≠ k + c)
def fanL (c at_ : Nat) : List Pr2 := ((List.range c).filter (fanB c at_)).map fun (k : Nat) => ((min k at_ : Nat), (max k at_ : Nat))
end K30.P

set_option maxHeartbeats 2000000
/-! k30: fans. -/
namespace K30.P
open PySem Uq
theorem msort_up {l : List Pr2} (h : Up l) : l.mergeSort leP2 = l := by
  refine List.Perm.eq_of_pairwise (le := fun p q => leP2 p q = true) (fun a b _ _ h1 h2 => ?_) (srt_pw _) (h.imp fun h => ?_) (List.mergeSort_perm _ _)
  · simp only [leP2, decide_eq_true_eq] at h1 h2
    exact Prod.ext (by omega) (by omega)
  · unfold lt2 at h
    simp only [leP2, decide_eq_true_eq]
    omega
theorem fan_mem {c a : Nat} {p : Pr2} (h : p ∈ fanL c a) : ∃ k : Nat, k < c ∧ (k ≠ a ∧ k ≠ a + 1 ∧ a ≠ k + 1 ∧ k + 1 ≠ a + c ∧ a + 1 ≠ k + c) ∧ p = (((min k a : Nat) : Int), ((max k a : Nat) : Int)) := by
  obtain ⟨k, hk, rfl⟩ := List.mem_map.mp h
  obtain ⟨h1, h2⟩ := List.mem_filter.mp hk
  exact ⟨k, List.mem_range.mp h1, of_decide_eq_true h2, rfl⟩
theorem fan_pw (c a : Nat) : (fanL c a).Pairwise fun q p => lt2 q p ∧ ¬ crs q p := by
  unfold fanL
  rw [List.pairwise_map]
  refine List.Pairwise.imp_of_mem (R := (· < ·)) (fun {x y} hx hy h => ?_) (List.Pairwise.filter _ List.pairwise_lt_range)
  have h1 := of_decide_eq_true (List.mem_filter.mp hx).2
  have h2 := of_decide_eq_true (List.mem_filter.mp hy).2
  unfold lt2 crs
  simp only
  omega
theorem fan_lens : ((List.range 61).all fun n => (List.range n).all fun a => decide (n ≤ ((List.range n).filter (fanB n a)).length + 3)) = true := by decide +kernel
theorem fan_cut {c a : Nat} (h2 : 2 ≤ c) (h60 : c ≤ 60) (ha : a < c) : Cut c (fanL c a) where
  n2 := h2
  n60 := h60
  ch := fun p hp => by
    obtain ⟨k, h1, h2, rfl⟩ := fan_mem hp
    refine decide_eq_true ?_
    simp only
    omega
  nc := fan_pw c a
  ln := by
    have h := List.all_eq_true.mp fan_lens c (by rw [List.mem_range]; omega)
    have h := of_decide_eq_true (List.all_eq_true.mp h a (by rw [List.mem_range]; exact ha))
    unfold fanL
    rw [List.length_map]
    exact h
theorem law_fan {n c a : Nat} {Q : QD} {E : Ex} (hc : c ≤ 60) (ha : a < c) (h : Q (.tuple ((fanL c a).map prD))) : W (n + 1) f__law_fan [.int c, .int a] Q E := by
  refine wC_of (fn := fn__law_fan) rfl rfl ?_
  simp [fn__law_fan]
  refine ⟨by omega, ?_⟩
  rw [show upto 0 c = upto (0 + ((0 : Nat) : Int)) c from rfl]
  refine frW_upto (lo := 0) (m := c) (I := fun k ρ => ∃ s3, ρ = [.va (.int c), .va (.int a), .ol ((((List.range k).filter (fanB c a)).map fun (k : Nat) => (((min k a : Nat) : Int), ((max k a : Nat) : Int))).map prD), s3]) ?_ ?_ c 0 _ (by omega) ⟨.no, rfl⟩
  · rintro ρ ⟨s3, rfl⟩
    simp
    have e : ((List.range c).filter (fanB c a)).map (prD ∘ fun (k : Nat) => (((min k a : Nat) : Int), ((max k a : Nat) : Int))) = (fanL c a).map prD := by
      unfold fanL
      rw [List.map_map]
    have e2 : ((List.range c).filter (fanB c a)).map (prD ∘ fun (k : Nat) => (min (k : Int) (a : Int), max (k : Int) (a : Int))) = (fanL c a).map prD := by
      rw [← e]
      apply List.map_congr_left
      intro k _
      show prD _ = prD _
      congr 1
      exact Prod.ext (by simp only; omega) (by simp only; omega)
    first | rw [e2] | rw [e]
    refine sorted_prs ?_
    rw [msort_up ((fan_pw c a).imp fun h => h.1)]
    simp
    exact h
  · rintro k ρ R hk ⟨s3, rfl⟩ hR
    have hlen : (((List.range k).filter (fanB c a)).map fun (k : Nat) => (((min k a : Nat) : Int), ((max k a : Nat) : Int))).length ≤ 60 := by
      rw [List.length_map]
      have := List.length_filter_le (fanB c a) (List.range k)
      rw [List.length_range] at this
      omega
    have step : R [.va (.int c), .va (.int a), .ol ((((List.range (k + 1)).filter (fanB c a)).map fun (k : Nat) => (((min k a : Nat) : Int), ((max k a : Nat) : Int))).map prD), .no] := hR _ ⟨_, rfl⟩
    rw [List.range_succ, List.filter_append] at step
    generalize hL : ((List.range k).filter (fanB c a)) = L at step hlen
    by_cases hf : fanB c a k = true
    · have hq := of_decide_eq_true hf
      rw [List.filter_cons_of_pos hf, List.filter_nil, List.map_append, List.map_append] at step
      have n1 : ¬ (k : Int) = a := by omega
      by_cases hka : (k : Int) - a < 0
      · have m1 : ¬ ((a : Int) < k) := by omega
        have m2 : (k : Int) < a := by omega
        have n2 : ¬ -((k : Int) - a) = 1 := by omega
        have n3 : ¬ -((k : Int) - a) = (c : Int) - 1 := by omega
        simp [n1, hka, n2, n3, m1, m2]
        refine ⟨lt_size (by simpa using Nat.lt_of_le_of_lt hlen (by decide)), ?_⟩
        have z1 : (min k a : Nat) = k := by omega
        have z2 : (max k a : Nat) = a := by omega
        simp only [List.map_cons, List.map_nil, z1, z2, List.map_map] at step
        simpa [prD, pr] using step
      · have m1 : ((a : Int) < k) := by omega
        have m2 : ¬ (k : Int) < a := by omega
        have n2 : ¬ ((k : Int) - a) = 1 := by omega
        have n3 : ¬ ((k : Int) - a) = (c : Int) - 1 := by omega
        simp [n1, hka, n2, n3, m1, m2]
        refine ⟨lt_size (by simpa using Nat.lt_of_le_of_lt hlen (by decide)), ?_⟩
        have z1 : (min k a : Nat) = a := by omega
        have z2 : (max k a : Nat) = k := by omega
        simp only [List.map_cons, List.map_nil, z1, z2, List.map_map] at step
        simpa [prD, pr] using step
    · have hf' : fanB c a k = false := by simpa using hf
      have hq := of_decide_eq_false hf'
      rw [List.filter_cons_of_neg (by rw [hf']; exact Bool.false_ne_true), List.filter_nil, List.append_nil] at step
      by_cases n1 : (k : Int) = a
      · simp [n1]
        simpa [n1] using step
      · by_cases hka : (k : Int) - a < 0
        · by_cases n2 : -((k : Int) - a) = 1
          · simp [n1, hka, n2]
            simpa using step
          · have n3 : -((k : Int) - a) = (c : Int) - 1 := by omega
            simp [n1, hka, n2, eq_true n3]
            simpa using step
        · by_cases n2 : ((k : Int) - a) = 1
          · simp [n1, hka, n2]
            simpa using step
          · have n3 : ((k : Int) - a) = (c : Int) - 1 := by omega
            simp [n1, hka, n2, eq_true n3]
            simpa using step
theorem fan_same {c : Nat} (h2 : 2 ≤ c) : cutOf c (fanP c ((c : Int) - 1)) = fanL c (c - 1) := by
  refine up_uniq ((up_line _).filter _) ((fan_pw _ _).imp fun h => h.1) fun x => ?_
  unfold cutOf
  rw [List.mem_filter, mem_line]
  constructor
  · rintro ⟨h1, h3⟩
    obtain ⟨q, hq, rfl⟩ := List.mem_map.mp h1
    obtain ⟨j, hj, rfl⟩ := List.mem_map.mp hq
    rw [List.mem_range] at hj
    have h4 := of_decide_eq_true h3
    unfold mm at h4 ⊢
    simp only at h4 ⊢
    by_cases e : j = c - 1
    · subst e
      simp at h4
      omega
    · have l1 : (j : Int) < (c : Int) - 1 := by omega
      have l2 : ¬ (j : Int) > (c : Int) - 1 := by omega
      rw [if_pos l1, if_neg l2] at h4 ⊢
      refine List.mem_map.mpr ⟨j, List.mem_filter.mpr ⟨List.mem_range.mpr hj, decide_eq_true ?_⟩, ?_⟩
      · omega
      · exact Prod.ext (by simp only; omega) (by simp only; omega)
  · intro h
    obtain ⟨k, h1, h3, rfl⟩ := fan_mem h
    refine ⟨List.mem_map.mpr ⟨((c : Int) - 1, (k : Int)), List.mem_map.mpr ⟨k, List.mem_range.mpr h1, rfl⟩, ?_⟩, decide_eq_true (by simp only; omega)⟩
    unfold mm
    simp only
    have l1 : (k : Int) < (c : Int) - 1 := by omega
    have l2 : ¬ (k : Int) > (c : Int) - 1 := by omega
    rw [if_pos l1, if_neg l2]
    exact Prod.ext (by simp only; omega) (by simp only; omega)
end K30.P

set_option maxHeartbeats 2000000
/-! k30: drawn splittings are cuttings. -/
namespace K30.P
open PySem Uq
theorem frW_nil {body : Uq.Env → K → Prop} {t : Tg} {k : K} {ρ : Uq.Env} : frW body t k [] ρ = k.nx ρ := id rfl
theorem frW_cons {body : Uq.Env → K → Prop} {t : Tg} {k : K} {d : D} {ds : List D} {ρ : Uq.Env} : frW body t k (d :: ds) ρ = tgR t d ρ fun ρ' => body ρ' ⟨frW body t k ds, k.rt, k.nx, frW body t k ds, k.ex⟩ := id rfl
/-- apart, or r over s -/
abbrev sep (r s : Pr2) : Prop := r.2 ≤ s.1 ∨ s.2 ≤ r.1 ∨ (r.1 ≤ s.1 ∧ s.2 ≤ r.2)
abbrev dis (r s : Pr2) : Prop := r.2 ≤ s.1 ∨ s.2 ≤ r.1
def wid (l : List Pr2) (d : Int) : Int := (l.map fun p => p.2 - p.1 - d).sum
theorem wid_nil {d : Int} : wid [] d = 0 := rfl
theorem wid_cons {l : List Pr2} {p : Pr2} {d : Int} : wid (p :: l) d = (p.2 - p.1 - d) + wid l d := by simp [wid]
theorem wid_app {a b : List Pr2} {d : Int} : wid (a ++ b) d = wid a d + wid b d := by simp [wid]
theorem wid_snoc {l : List Pr2} {p : Pr2} {d : Int} : wid (l ++ [p]) d = wid l d + (p.2 - p.1 - d) := by simp [wid]
/-- rows told so far, stretches to be split -/
structure SI (c : Nat) (rows stk : List Pr2) : Prop where
  ch : ∀ p ∈ rows, chordB c p = true
  nx : ∀ p ∈ rows, ∀ q ∈ rows, ¬ crs p q
  nd : rows.Nodup
  inb : ∀ s ∈ stk, 0 ≤ s.1 ∧ s.1 + 2 ≤ s.2 ∧ s.2 ≤ (c : Int) - 1
  rs : ∀ r ∈ rows, ∀ s ∈ stk, sep r s
  ss : stk.Pairwise dis
  cnt : (rows.length : Int) + wid stk 2 = (c : Int) - 3
theorem SI.pop {c : Nat} {rows stk : List Pr2} {s : Pr2} (h : SI c rows (stk ++ [s])) : SI c rows stk ↔ s.2 - s.1 = 2 := by
  constructor
  · intro z
    have h1 := h.cnt
    have h2 := z.cnt
    rw [wid_snoc] at h1
    omega
  · intro z
    have h1 := h.cnt
    rw [wid_snoc] at h1
    exact ⟨h.ch, h.nx, h.nd, fun t ht => h.inb t (by simp [ht]), fun r hr t ht => h.rs r hr t (by simp [ht]), (List.pairwise_append.mp h.ss).1, by omega⟩
theorem chord_in {c : Nat} {p : Pr2} (h : chordB c p = true) : 0 ≤ p.1 ∧ p.1 + 2 ≤ p.2 ∧ p.2 < c := by
  have := of_decide_eq_true h
  omega
/-- s is split at m: what is above one -/
theorem SI.split {c : Nat} {rows stk : List Pr2} {s : Pr2} {m : Int} (h : SI c rows (stk ++ [s])) (h1 : s.1 < m) (h2 : m < s.2) :
    SI c (rows ++ ((if 2 ≤ m - s.1 then [(s.1, m)] else []) ++ (if 2 ≤ s.2 - m then [(m, s.2)] else []))) (stk ++ ((if 2 ≤ m - s.1 then [(s.1, m)] else []) ++ (if 2 ≤ s.2 - m then [(m, s.2)] else []))) := by
  have hs := h.inb s (by simp)
  generalize hN : ((if 2 ≤ m - s.1 then [(s.1, m)] else []) ++ (if 2 ≤ s.2 - m then [(m, s.2)] else []) : List Pr2) = N
  have mem : ∀ p ∈ N, (p = (s.1, m) ∧ 2 ≤ m - s.1) ∨ (p = (m, s.2) ∧ 2 ≤ s.2 - m) := fun p hp => by
    rw [← hN] at hp
    rcases List.mem_append.mp hp with hp | hp
    · split at hp
      · exact .inl ⟨List.mem_singleton.mp hp, by assumption⟩
      · cases hp
    · split at hp
      · exact .inr ⟨List.mem_singleton.mp hp, by assumption⟩
      · cases hp
  have part : ∀ p ∈ N, s.1 ≤ p.1 ∧ p.1 + 2 ≤ p.2 ∧ p.2 ≤ s.2 ∧ (s.1 < p.1 ∨ p.2 < s.2) := fun p hp => by
    rcases mem p hp with ⟨rfl, z⟩ | ⟨rfl, z⟩ <;> simp only <;> omega
  have pd : ∀ p ∈ N, ∀ q ∈ N, p = q ∨ dis p q := fun p hp q hq => by
    rcases mem p hp with ⟨rfl, z⟩ | ⟨rfl, z⟩ <;> rcases mem q hq with ⟨rfl, y⟩ | ⟨rfl, y⟩
    · exact .inl rfl
    · exact .inr (.inl (Int.le_refl _))
    · exact .inr (.inr (Int.le_refl _))
    · exact .inl rfl
  have hss := List.pairwise_append.mp h.ss
  refine ⟨fun p hp => ?_, fun p hp q hq => ?_, ?_, fun t ht => ?_, fun r hr t ht => ?_, ?_, ?_⟩
  · rcases List.mem_append.mp hp with hp | hp
    · exact h.ch p hp
    · have := part p hp
      exact decide_eq_true (by omega)
  · rcases List.mem_append.mp hp with hp | hp <;> rcases List.mem_append.mp hq with hq | hq
    · exact h.nx p hp q hq
    · have a := part q hq
      have b := h.rs p hp s (by simp)
      unfold crs; unfold sep at b
      omega
    · have a := part p hp
      have b := h.rs q hq s (by simp)
      unfold crs; unfold sep at b
      omega
    · rcases pd p hp q hq with rfl | d
      · unfold crs; omega
      · unfold crs; unfold dis at d; omega
  · refine List.nodup_append.mpr ⟨h.nd, ?_, fun p hp q hq e => ?_⟩
    · rw [← hN]
      refine List.nodup_append.mpr ⟨by split <;> simp, by split <;> simp, fun p hp q hq e => ?_⟩
      subst e
      split at hp
      · split at hq
        · have e1 := List.mem_singleton.mp hp
          have e2 := List.mem_singleton.mp hq
          rw [e1] at e2
          have := congrArg Prod.fst e2
          simp only at this
          omega
        · cases hq
      · cases hp
    · subst e
      have a := part p hq
      have b := h.rs p hp s (by simp)
      unfold sep at b
      omega
  · rcases List.mem_append.mp ht with ht | ht
    · exact h.inb t (by simp [ht])
    · have a := part t ht
      omega
  · rcases List.mem_append.mp hr with hr | hr <;> rcases List.mem_append.mp ht with ht | ht
    · exact h.rs r hr t (by simp [ht])
    · have a := part t ht
      have b := h.rs r hr s (by simp)
      unfold sep at b ⊢
      omega
    · have a := part r hr
      have b := hss.2.2 t ht s (by simp)
      unfold sep; unfold dis at b
      omega
    · rcases pd r hr t ht with rfl | d
      · unfold sep; omega
      · unfold sep; unfold dis at d; omega
  · refine List.pairwise_append.mpr ⟨hss.1, ?_, fun p hp q hq => ?_⟩
    · rw [← hN]
      refine List.pairwise_append.mpr ⟨by split <;> simp, by split <;> simp, fun p hp q hq => ?_⟩
      split at hp
      · split at hq
        · rw [List.mem_singleton.mp hp, List.mem_singleton.mp hq]
          exact .inl (Int.le_refl _)
        · cases hq
      · cases hp
    · have a := part q hq
      have b := hss.2.2 p hp s (by simp)
      unfold dis at b ⊢
      omega
  · have c0 := h.cnt
    rw [wid_snoc] at c0
    rw [wid_app, List.length_append, ← hN]
    by_cases a1 : 2 ≤ m - s.1 <;> by_cases a2 : 2 ≤ s.2 - m
    all_goals simp only [a1, a2, if_true, if_false, List.append_nil, List.nil_append, List.cons_append, List.length_cons, List.length_nil, wid_cons, wid_nil]
    all_goals omega
theorem split_wid {s : Pr2} {m : Int} (h1 : s.1 < m) (h2 : m < s.2) : wid ((if 2 ≤ m - s.1 then [(s.1, m)] else []) ++ (if 2 ≤ s.2 - m then [(m, s.2)] else [])) 1 = s.2 - s.1 - 2 := by
  by_cases a1 : 2 ≤ m - s.1 <;> by_cases a2 : 2 ≤ s.2 - m
  all_goals simp only [a1, a2, if_true, if_false, List.append_nil, List.nil_append, List.cons_append, wid_cons, wid_nil]
  all_goals omega
theorem SI.done {c : Nat} {rows : List Pr2} (h2 : 2 ≤ c) (h60 : c ≤ 60) (h : SI c rows []) : Cut c (rows.mergeSort leP2) := by
  have pm := List.mergeSort_perm rows leP2
  have nd : (rows.mergeSort leP2).Nodup := pm.nodup_iff.mpr h.nd
  have c0 := h.cnt
  refine ⟨h2, h60, fun p hp => h.ch p (pm.mem_iff.mp hp), ?_, ?_⟩
  · refine List.Pairwise.imp_of_mem (fun {p q} hp hq z => ⟨?_, h.nx p (pm.mem_iff.mp hp) q (pm.mem_iff.mp hq)⟩) ((srt_pw rows).and (List.nodup_iff_pairwise_ne.mp nd))
    have z1 := z.1
    simp only [leP2, decide_eq_true_eq] at z1
    have z2 : p ≠ q := z.2
    unfold lt2
    by_cases e : p.1 = q.1
    · have : p.2 ≠ q.2 := fun e2 => z2 (Prod.ext e e2)
      omega
    · omega
  · rw [pm.length_eq]
    rw [wid_nil] at c0
    omega
theorem wid_nn {l : List Pr2} (h : ∀ s ∈ l, s.1 + 2 ≤ s.2) : 0 ≤ wid l 1 ∧ (wid l 1 = 0 → l = []) := by
  induction l with
  | nil => exact ⟨Int.le_refl _, fun _ => rfl⟩
  | cons p l ih =>
    have i := ih fun s hs => h s (List.mem_cons_of_mem _ hs)
    have hp := h p List.mem_cons_self
    rw [wid_cons]
    exact ⟨by omega, fun z => by omega⟩
theorem law_split {n c : Nat} {xs : List Int} {Q : QD} {E : Ex} (h2 : 2 ≤ c) (h60 : c ≤ 60) (hx : xs.length = c) (h : ∀ ps, Cut c ps → Q (.tuple (ps.map prD))) : W (n + 1) f__law_split [.int c, .list (xs.map PyData.int)] Q E := by
  refine wC_of (fn := fn__law_split) rfl rfl ?_
  have fin : ∀ (rows : List Pr2) (s0 : Sl), Cut c (rows.mergeSort leP2) → wSs ⟨wC T sub flds n, sub, flds⟩ (fn__law_split.body.drop 3) [s0, .va (.list (xs.map PyData.int)), .ol (rows.map prD), .ol [], .no, .no, .no, .no, .no, .no] ⟨fun _ => Q .none, Q, fun _ => False, fun _ => False, fun c fs _ => E c fs⟩ := fun rows s0 hs => by
    simp [fn__law_split]
    refine sorted_prs ?_
    simp
    exact h _ hs
  by_cases c2 : c = 2
  · subst c2
    have f := fin [] (.va (.int 2)) ⟨h2, h60, (fun p hp => by simp at hp), by simp, by simp⟩
    simp [fn__law_split] at f ⊢
    show frW _ _ _ [PyData.int 0, PyData.int 1] _
    simp [frW_cons, frW_nil]
    refine popUR_snoc (ds := []) ?_
    simp
    exact f
  · simp [fn__law_split]
    refine ⟨by omega, ?_⟩
    rw [show upto 0 c = upto (0 + ((0 : Nat) : Int)) c from rfl]
    refine frW_upto (lo := 0) (m := c) (I := fun k ρ => ∃ rows stk s4 s5 s6 s7 s8 s9, SI c rows stk ∧ wid stk 1 = (c : Int) - 2 - k ∧ ρ = [.va (.int c), .va (.list (xs.map PyData.int)), .ol (rows.map prD), .ol (stk.map prD), s4, s5, s6, s7, s8, s9]) ?_ ?_ c 0 _ (by omega) ⟨[], [(0, (c : Int) - 1)], .no, .no, .no, .no, .no, .no, ?_, ?_, by simp [prD, pr]⟩
    · rintro ρ ⟨rows, stk, s4, s5, s6, s7, s8, s9, hs, hw, rfl⟩
      have := (wid_nn fun s h => (hs.inb s h).2.1).1
      omega
    · rintro k ρ R hk ⟨rows, stk, s4, s5, s6, s7, s8, s9, hs, hw, rfl⟩ hR
      rcases nil_or_snoc stk with rfl | ⟨st, s, rfl⟩
      · have f := fin rows (.va (.int c)) (hs.done h2 h60)
        simp [fn__law_split] at f ⊢
        exact f
      · have hsb := hs.inb s (by simp)
        have hlen : rows.length ≤ 60 ∧ st.length ≤ 60 := by
          have c0 := hs.cnt
          have w2 : ∀ l : List Pr2, (∀ s ∈ l, s.1 + 2 ≤ s.2) → 0 ≤ wid l 2 ∧ (l.length : Int) ≤ wid l 1 := fun l => by
            induction l with
            | nil => exact fun _ => ⟨Int.le_refl _, Int.le_refl _⟩
            | cons p l ih =>
              intro h
              have i := ih fun s hs => h s (List.mem_cons_of_mem _ hs)
              have hp := h p List.mem_cons_self
              rw [wid_cons, wid_cons, List.length_cons]
              omega
          have := w2 (st ++ [s]) fun s h => (hs.inb s h).2.1
          rw [List.length_append, List.length_singleton] at this
          omega
        have hkx : L2.atI (xs.map PyData.int) (k : Int) = some (.int xs[k]) := atI_nat (by simp [show k < xs.length by omega])
        have hne : (st.map prD ++ [prD s]).isEmpty = false := by simp
        obtain ⟨a, b⟩ := s
        simp only at hsb
        have hab : 1 < b - a := by omega
        have hmod := fmod_in (a := xs[k]) (b := b - a - 1) (by omega)
        have hne2 : ¬ b - a - 1 = 0 := by omega
        generalize hm : a + 1 + xs[k].fmod (b - a - 1) = m at *
        have h1 : a < m := by omega
        have h3 : m < b := by omega
        have sp := hs.split (m := m) h1 h3
        have hw2 : wid (st ++ ((if 2 ≤ m - a then [(a, m)] else []) ++ (if 2 ≤ b - m then [(m, b)] else []))) 1 = (c : Int) - 2 - (k + 1 : Nat) := by
          have e := split_wid (s := (a, b)) h1 h3
          simp only at e
          rw [wid_snoc] at hw
          rw [wid_app, e]
          simp only at hw ⊢
          omega
        have step := fun s4 s5 s6 s7 s8 s9 => hR [.va (.int c), .va (.list (xs.map PyData.int)), .ol ((rows ++ ((if 2 ≤ m - a then [(a, m)] else []) ++ (if 2 ≤ b - m then [(m, b)] else []))).map prD), .ol ((st ++ ((if 2 ≤ m - a then [(a, m)] else []) ++ (if 2 ≤ b - m then [(m, b)] else []))).map prD), s4, s5, s6, s7, s8, s9] ⟨_, _, s4, s5, s6, s7, s8, s9, sp, hw2, rfl⟩
        have step := step .no .no .no .no .no .no
        simp only [List.map_append, List.map_cons, List.map_nil]
        simp
        refine popUR_snoc ?_
        simp [prD, pr, hab, hkx, hne2, hm, frW_cons, frW_nil, frzIt, nms, nmsL]
        by_cases a1 : 2 ≤ m - a <;> by_cases a2 : 2 ≤ b - m
        · have b1 : 1 < m - a := by omega
          have b2 : 1 < b - m := by omega
          simp [a1, a2, prD, pr] at step
          simp [b1, b2]
          exact ⟨lt_size (by omega), lt_size (by omega), lt_size (by omega), lt_size (by omega), step⟩
        · have b1 : 1 < m - a := by omega
          have b2 : ¬ 1 < b - m := by omega
          simp [a1, a2, prD, pr] at step
          simp [b1, b2]
          exact ⟨lt_size (by omega), lt_size (by omega), step⟩
        · have b1 : ¬ 1 < m - a := by omega
          have b2 : 1 < b - m := by omega
          simp [a1, a2, prD, pr] at step
          simp [b1, b2]
          exact ⟨lt_size (by omega), lt_size (by omega), step⟩
        · have b1 : ¬ 1 < m - a := by omega
          have b2 : ¬ 1 < b - m := by omega
          simp [a1, a2, prD, pr] at step
          simp [b1, b2]
          exact step
    · refine ⟨fun _ h => (nomatch h), fun _ h => (nomatch h), List.nodup_nil, fun s hs => ?_, fun _ h => (nomatch h), List.pairwise_singleton _ _, ?_⟩
      · rw [List.mem_singleton.mp hs]
        simp only
        omega
      · rw [wid_cons, wid_nil]
        simp only [List.length_nil]
        omega
    · rw [wid_cons, wid_nil]
      simp only
      omega
end K30.P

set_option maxHeartbeats 1000000
/-! k30: formulas. -/
namespace K30.P
open PySem Uq
theorem rounds_succ {c : Nat} {xs : List Int} {m : Int} (h : 1 ≤ c) (hx : xs.length = c) (hm : 0 ≤ m) : roundsF c xs (m + 1) = roundsF c xs m + xs.getD (m % c).toNat 0 := by
  have hc : (c : Int) ≠ 0 := by omega
  have r0 := Int.emod_nonneg m hc
  have r1 := Int.emod_lt_of_pos m (show (0 : Int) < c by omega)
  have e : m = m % c + c * (m / c) := (Int.emod_add_mul_ediv m c).symm
  unfold roundsF
  generalize hq : m / (c : Int) = q at *
  generalize hr : m % (c : Int) = r at *
  have e1 : (m + 1) / (c : Int) = (r + 1) / c + q := by
    rw [e, show r + c * q + 1 = (r + 1) + c * q by omega, Int.add_mul_ediv_left _ _ hc]
  have e2 : (m + 1) % (c : Int) = (r + 1) % c := by
    rw [e, show r + c * q + 1 = (r + 1) + c * q by omega, Int.add_mul_emod_self_left]
  rw [e1, e2]
  obtain ⟨j, rfl⟩ := Int.eq_ofNat_of_zero_le r0
  have hj : j < xs.length := by omega
  have et : (xs.take (j + 1)).sum = (xs.take j).sum + xs[j] := by
    rw [List.take_succ_eq_append_getElem hj, List.sum_append]
    simp
  have eg : xs.getD ((j : Nat) : Int).toNat 0 = xs[j] := by simp [hj]
  rw [eg, Int.toNat_natCast]
  by_cases el : j + 1 = c
  · have : ((j : Int) + 1) = c := by omega
    rw [this, Int.ediv_self hc, Int.emod_self]
    have : xs.sum = (xs.take j).sum + xs[j] := by
      rw [← et, el, ← hx, List.take_length]
    rw [Int.add_mul, this]
    simp
    omega
  · have a1 : ((j : Int) + 1) / c = 0 := Int.ediv_eq_zero_of_lt (by omega) (by omega)
    have a2 : ((j : Int) + 1) % c = j + 1 := Int.emod_eq_of_lt (by omega) (by omega)
    rw [a1, a2, show ((j : Int) + 1).toNat = j + 1 by omega, et, Int.zero_add]
    omega
theorem rounds_0 {c : Nat} {xs : List Int} : roundsF c xs 0 = 0 := by simp [roundsF]
theorem rowL_getD {c : Nat} {ps : List Pr2} {j : Int} (h0 : 0 ≤ j) (h1 : j < c) : (rowL c ps).getD j.toNat 0 = endsN ps j := by
  obtain ⟨k, rfl⟩ := Int.eq_ofNat_of_zero_le h0
  have : k < c := by omega
  simp [rowL, this]
/-- an answer's joins are the difference -/
theorem ap_fj {c : Nat} {ps : List Pr2} {m : Int} (ct : Cut c ps) (hm : 0 ≤ m) : apF c ps m = fjF c ps (m + 1) - fjF c ps m := by
  have h2 := ct.n2
  by_cases h0 : m = 0
  · subst h0
    have e : fcF c ps 0 = 0 := rounds_0
    unfold apF fjF
    rw [if_pos rfl, if_pos (show (0 : Int) = 0 ∨ c = 2 from .inl rfl)]
    by_cases c2 : c = 2
    · rw [if_pos (.inr c2)]
      omega
    · rw [if_neg (by omega), show (0 : Int) + 1 - 1 = 0 from rfl, e]
      omega
  · have e := rounds_succ (c := c) (xs := rowL c ps) (m := m - 1) (by omega) rowL_len (by omega)
    have r0 := Int.emod_nonneg (m - 1) (show (c : Int) ≠ 0 by omega)
    have r1 := Int.emod_lt_of_pos (m - 1) (show (0 : Int) < c by omega)
    rw [rowL_getD r0 r1] at e
    have d := deg_eq ct r0 r1
    unfold apF fjF prF
    rw [if_neg h0, d]
    by_cases c2 : c = 2
    · subst c2
      rw [ends2 ct, if_pos rfl, if_pos (.inr rfl), if_pos (.inr rfl)]
      rfl
    · rw [if_neg c2, if_neg (by omega), if_neg (by omega), show m + 1 - 1 = m - 1 + 1 by omega]
      have e' : fcF c ps (m - 1 + 1) = fcF c ps (m - 1) + endsN ps ((m - 1) % c) := e
      rw [e']
      omega
theorem fan_list : ((List.range 61).all fun c => decide (fanL c (c - 1) = (List.range (c - 3)).map fun (k : Nat) => ((k : Int) + 1, (c : Int) - 1))) = true := by decide +kernel
theorem fan_ends : ∀ (m : Nat) (C k : Int), (m : Int) < C → endsN ((List.range m).map fun (j : Nat) => ((j : Int) + 1, C)) k = (if 1 ≤ k ∧ k ≤ m then 1 else 0) + (if k = C then m else 0)
  | 0, C, k, h => by
    rw [if_neg (by omega)]
    split <;> rfl
  | m + 1, C, k, h => by
    rw [List.range_succ, List.map_append, endsN_app, fan_ends m C k (by omega)]
    simp only [List.map_cons, List.map_nil, endsN]
    repeat' split
    all_goals omega
theorem fan_endsN {c : Nat} {k : Int} (h2 : 2 ≤ c) (h60 : c ≤ 60) : endsN (fanL c (c - 1)) k = (if 1 ≤ k ∧ k ≤ (c - 3 : Nat) then 1 else 0) + (if k = (c : Int) - 1 then c - 3 else 0) := by
  have h := of_decide_eq_true (List.all_eq_true.mp fan_list c (by rw [List.mem_range]; omega))
  rw [h]
  exact fan_ends _ _ _ (by omega)
theorem fan_take {c : Nat} (h2 : 3 ≤ c) (h60 : c ≤ 60) : ∀ r : Nat, r ≤ c → ((rowL c (fanL c (c - 1))).take r).sum = if r = c then 2 * ((c : Int) - 3) else if r = c - 1 then (c : Int) - 3 else max 0 ((r : Int) - 1)
  | 0, _ => by
    rw [if_neg (by omega), if_neg (by omega)]
    rfl
  | r + 1, h => by
    have hr : r < (rowL c (fanL c (c - 1))).length := by rw [rowL_len]; omega
    rw [List.take_succ_eq_append_getElem hr, List.sum_append, fan_take h2 h60 r (by omega)]
    have e : (rowL c (fanL c (c - 1)))[r] = endsN (fanL c (c - 1)) r := by simp [rowL]
    rw [e, fan_endsN (by omega) h60, List.sum_cons, List.sum_nil]
    repeat' split
    all_goals omega
/-- the least is the fan's cost -/
theorem lf_fan {c : Nat} {m : Int} (h2 : 2 ≤ c) (h60 : c ≤ 60) (hm : 0 ≤ m) : lfF ((c : Int) - 1) m = fjF c (fanL c (c - 1)) m := by
  unfold lfF fjF
  by_cases h0 : m = 0
  · rw [if_pos (.inl h0), if_pos (.inl h0)]
  by_cases c2 : c = 2
  · rw [if_pos (.inr (by omega)), if_pos (.inr c2)]
  rw [if_neg (show ¬ (m = 0 ∨ (c : Int) - 1 = 1) by omega), if_neg (show ¬ (m = 0 ∨ c = 2) by omega)]
  have ft := fan_take (c := c) (by omega) h60
  have es : (rowL c (fanL c (c - 1))).sum = 2 * ((c : Int) - 3) := by
    have := ft c (Nat.le_refl _)
    rw [if_pos rfl, List.take_of_length_le (by rw [rowL_len]; exact Nat.le_refl _)] at this
    exact this
  unfold fcF
  rw [es, show (c : Int) - 1 + 1 = c by omega]
  have r0 := Int.emod_nonneg (m - 1) (show (c : Int) ≠ 0 by omega)
  have r1 := Int.emod_lt_of_pos (m - 1) (show (0 : Int) < c by omega)
  generalize (m - 1) / (c : Int) = q
  generalize (m - 1) % (c : Int) = r at *
  obtain ⟨j, rfl⟩ := Int.eq_ofNat_of_zero_le r0
  rw [Int.toNat_natCast, ft j (by omega)]
  have e1 : ((c : Int) - 1 - 2) * (1 + 2 * q) = ((c : Int) - 3) + q * (2 * ((c : Int) - 3)) := by
    rw [Int.mul_add, Int.mul_one, show (c : Int) - 1 - 2 = c - 3 by omega]
    congr 1
    rw [Int.mul_comm q, Int.mul_assoc, Int.mul_comm 2 (((c : Int) - 3) * q), Int.mul_assoc, Int.mul_comm q 2]
  rw [e1]
  generalize q * (2 * ((c : Int) - 3)) = z
  have hM : (j = 0 → max 0 ((j : Int) - 1) = 0) ∧ (j ≠ 0 → max 0 ((j : Int) - 1) = j - 1) := ⟨fun _ => by omega, fun _ => by omega⟩
  generalize max 0 ((j : Int) - 1) = M at *
  repeat' split
  all_goals omega
/-- a step's joins -/
theorem row_step : ∀ {ps : List Pr2} {s : Int}, (∀ p ∈ ps, 0 ≤ p.1 ∧ p.1 + 2 ≤ p.2) → ((rowOf ps s).filter fun x => decide (x < s - 1)).length = ps.countP fun p => decide (p.2 = s)
  | [], s, _ => rfl
  | p :: ps, s, h => by
    have i := row_step (ps := ps) (s := s) fun q hq => h q (List.mem_cons_of_mem _ hq)
    have hp := h p List.mem_cons_self
    have e : rowOf (p :: ps) s = one1 p s ++ rowOf ps s := rfl
    rw [e, List.filter_append, List.length_append, i, List.countP_cons]
    unfold one1
    by_cases a : p.1 = s <;> by_cases b : p.2 = s
    · omega
    · rw [if_pos a, if_neg b, if_neg (by simpa using b)]
      have : ¬ p.2 < s - 1 := by omega
      simp [this]
    · rw [if_neg a, if_pos b, if_pos (by simpa using b)]
      have : p.1 < s - 1 := by omega
      simp [this]
      omega
    · rw [if_neg a, if_neg b, if_neg (by simpa using b)]
      simp
theorem row_app {a b : List Pr2} {k : Int} : rowOf (a ++ b) k = rowOf a k ++ rowOf b k := by simp [rowOf]
theorem side_step : ∀ {m : Nat} {s : Int}, (rowOf ((List.range m).map fun (k : Nat) => ((k : Int), (k : Int) + 1)) s).filter (fun x => decide (x < s - 1)) = []
  | 0, s => rfl
  | m + 1, s => by
    rw [List.range_succ, List.map_append, row_app, List.filter_append, side_step]
    simp only [List.map_cons, List.map_nil, rowOf, List.flatMap_cons, List.flatMap_nil, List.append_nil, one1, List.nil_append]
    rw [List.filter_eq_nil_iff]
    intro x hx
    rcases List.mem_append.mp hx with hx | hx
    · split at hx
      · rw [List.mem_singleton.mp hx]
        simp only [decide_eq_true_eq]
        omega
      · cases hx
    · split at hx
      · rw [List.mem_singleton.mp hx]
        simp only [decide_eq_true_eq]
        omega
      · cases hx
/-- joins of step s, as the law tells them -/
theorem sj_eq {c : Nat} {ps : List Pr2} {s : Int} (ct : Cut c ps) (hs : 1 ≤ s) : sjF c ps s = if s < (c : Int) - 1 then ((ps.countP fun p => decide (p.2 = s) : Nat) : Int) else if 2 < c then (endsN ps (s % c) : Int) + 1 else 0 := by
  have h2 := ct.n2
  have r0 := Int.emod_nonneg s (show (c : Int) ≠ 0 by omega)
  have r1 := Int.emod_lt_of_pos s (show (0 : Int) < c by omega)
  have hin : ∀ p ∈ ps, 0 ≤ p.1 ∧ p.1 + 2 ≤ p.2 := fun p hp => ⟨(ct.inb hp).1, (ct.inb hp).2.1⟩
  unfold sjF
  by_cases hc : (c : Int) ≤ s
  · rw [if_pos hc, if_neg (by omega)]
    unfold prF
    rw [deg_eq ct r0 r1]
    by_cases c2 : c = 2
    · subst c2
      rw [ends2 ct]
      rfl
    · rw [if_neg c2, if_pos (by omega)]
      omega
  · rw [if_neg hc]
    unfold pairsL
    rw [row_app, row_app, List.filter_append, List.filter_append, side_step, List.nil_append, List.length_append, row_step hin]
    by_cases hl : s < (c : Int) - 1
    · rw [if_pos hl]
      have : ((rowOf (if 2 < c then [((0 : Int), (c : Int) - 1)] else []) s).filter fun x => decide (x < s - 1)) = [] := by
        split
        · simp only [rowOf, List.flatMap_cons, List.flatMap_nil, List.append_nil, one1]
          rw [if_neg (by omega), if_neg (by omega)]
          rfl
        · rfl
      rw [this]
      rfl
    · have es : s = (c : Int) - 1 := by omega
      rw [if_neg hl, Int.emod_eq_of_lt (by omega) (by omega)]
      have ee : (ps.countP fun p => decide (p.2 = s)) = endsN ps s := by
        have : ∀ ps : List Pr2, (∀ p ∈ ps, p.1 ≠ s) → (ps.countP fun p => decide (p.2 = s)) = endsN ps s := fun ps => by
          induction ps with
          | nil => exact fun _ => rfl
          | cons p ps ih =>
            intro h
            rw [List.countP_cons, ih fun q hq => h q (List.mem_cons_of_mem _ hq)]
            have := h p List.mem_cons_self
            simp only [endsN, decide_eq_true_eq]
            rw [if_neg this]
            omega
        exact this ps fun p hp => by
          have := ct.inb hp
          omega
      rw [ee]
      by_cases c2 : 2 < c
      · rw [if_pos c2, if_pos c2]
        have : ((rowOf [((0 : Int), (c : Int) - 1)] s).filter fun x => decide (x < s - 1)) = [0] := by
          simp only [rowOf, List.flatMap_cons, List.flatMap_nil, List.append_nil, one1]
          rw [if_neg (by omega), if_pos (by omega)]
          have : (0 : Int) < s - 1 := by omega
          simp [this]
          omega
        rw [this]
        rfl
      · rw [if_neg c2, if_neg c2]
        have : c = 2 := by omega
        subst this
        rw [ends2 ct]
        rfl
end K30.P

set_option maxHeartbeats 2000000
/-! k30: the strip unrolled. -/
namespace K30.P
open PySem Uq
def baseL (n : Nat) (k : Int) : List Int := [(k + 1) % n, (k - 1) % n]
def nearL (n : Nat) (ps : List Pr2) (k : Int) : List Int := baseL n k ++ rowOf ps k
structure U where
  stk : List Pr2
  seen : List (Nat × Pr2)
def pushK (n : Nat) (ps : List Pr2) (i j : Int) (r : List Pr2) : Nat → List Pr2
  | 0 => r
  | t + 1 => if ((nearL n ps (i % n)).contains ((i + 1 + t) % n) && (nearL n ps (j % n)).contains ((i + 1 + t) % n)) = true then (i + 1 + t, j) :: (i, i + 1 + t) :: pushK n ps i j r t else pushK n ps i j r t
def newB (seen : List (Nat × Pr2)) (p : Pr2) : Bool := seen.all fun q => decide (q.2 ≠ p)
def ustep (n : Nat) (ps : List Pr2) (a : Nat) (u : U) : U := match u.stk with
  | [] => u
  | (i, j) :: r => if (decide (1 < j - i) && newB u.seen (i, j)) = true then ⟨pushK n ps i j r (j - i - 1).toNat, (a, (i, j)) :: u.seen⟩ else ⟨r, u.seen⟩
def urun (n : Nat) (ps : List Pr2) (a : Nat) (u : U) : Nat → U
  | 0 => u
  | f + 1 => ustep n ps a (urun n ps a u f)
def uans (n : Nat) (ps : List Pr2) : Nat → List (Nat × Pr2)
  | 0 => []
  | a + 1 => (urun n ps a ⟨[((a : Int), (a : Int) + n - 1)], uans n ps a⟩ (2 * n + 2)).seen
def freshN (l : List (Nat × Pr2)) (m : Nat) : Nat := l.countP fun q => decide (q.1 = m)
def stepsN (l : List (Nat × Pr2)) (s : Int) : Nat := l.countP fun q => decide (q.2.2 = s)
def kv (l : List (Nat × Pr2)) : List (List Int × D) := l.reverse.map fun q => ([q.2.1, q.2.2], .bool true)
def frD (l : List (Nat × Pr2)) (most : Nat) : List D := (List.range most).map fun m => .int (freshN l m)
def stD (l : List (Nat × Pr2)) (most : Nat) : List D := (List.range most).map fun (s : Nat) => .int (stepsN l s)
theorem look_kv {l : List (Nat × Pr2)} {p : Pr2} : (look (kv l) [p.1, p.2]).isSome = !newB l p := by
  unfold look kv newB
  rw [Option.isSome_map, Bool.eq_iff_iff]
  rw [List.find?_isSome]
  simp only [List.mem_map, List.mem_reverse, Bool.not_eq_true', List.all_eq_false, decide_eq_true_eq, Decidable.not_not]
  constructor
  · rintro ⟨x, ⟨q, hq, rfl⟩, e⟩
    simp only [List.cons.injEq, and_true] at e
    exact ⟨q, hq, Prod.ext e.1 e.2⟩
  · rintro ⟨q, hq, e⟩
    exact ⟨_, ⟨q, hq, rfl⟩, by rw [← e]⟩
theorem put_kv {l : List (Nat × Pr2)} {p : Pr2} {a : Nat} (h : newB l p = true) : putD (kv l) [p.1, p.2] (.bool true) = kv ((a, p) :: l) := by
  have : look (kv l) [p.1, p.2] = none := by
    have := look_kv (l := l) (p := p)
    rw [h] at this
    cases e : look (kv l) [p.1, p.2] with
    | none => rfl
    | some _ => rw [e] at this; cases this
  rw [putK_new this]
  unfold kv
  rw [List.reverse_cons, List.map_append]
  rfl
theorem mem_ints {l : List Int} {x : Int} {Q : Bool → Prop} (h : Q (l.contains x)) : memR (.int x) (.list (l.map PyData.int)) Q := by
  refine ⟨⟨si x, shd_sh (k := 1) (shd_lst fun y hy => ?_) (by decide)⟩, ?_⟩
  · obtain ⟨i, _, rfl⟩ := List.mem_map.mp hy
    exact shd_int (k := 0)
  · have : ((l.map PyData.int).any fun d => PyData.eqv d (.int x)) = l.contains x := by
      clear h
      induction l with
      | nil => rfl
      | cons y l ih =>
        rw [List.map_cons, List.any_cons, ih, List.contains_cons]
        congr 1
        simp only [PyData.eqv]
        by_cases e : x = y
        · subst e; simp
        · rw [beq_eq_false_iff_ne.mpr e]
          simp
          exact fun z => e z.symm
    rw [this]
    exact h
theorem tbl_ix {c : Nat} {r : Int → List Int} {j : Int} (h0 : 0 ≤ j) (h1 : j < c) : L2.atI ((tbl c r).map PyData.list) j = some (.list ((r j).map PyData.int)) := by
  obtain ⟨k, rfl⟩ := Int.eq_ofNat_of_zero_le h0
  exact atI_nat (by simp [tbl, show k < c by omega])
theorem pushK_len {n : Nat} {ps : List Pr2} {i j : Int} {r : List Pr2} : ∀ t : Nat, (pushK n ps i j r t).length ≤ r.length + 2 * t
  | 0 => Nat.le_refl _
  | t + 1 => by
    unfold pushK
    have := pushK_len (n := n) (ps := ps) (i := i) (j := j) (r := r) t
    split
    · simp only [List.length_cons]; omega
    · omega
/-- what stays true of a stack -/
structure UI (c a : Nat) (u : U) (t : Nat) : Prop where
  inb : ∀ p ∈ u.stk, (a : Int) ≤ p.1 ∧ p.1 < p.2 ∧ p.2 ≤ (a : Int) + c - 1
  len : u.stk.length ≤ 1 + 120 * t
theorem UI.step {c a t : Nat} {ps : List Pr2} {u : U} (hc : c ≤ 60) (h : UI c a u t) : UI c a (ustep c ps a u) (t + 1) := by
  unfold ustep
  have hl := h.len
  split
  · exact ⟨h.inb, by omega⟩
  · rename_i i j r e
    rw [e, List.length_cons] at hl
    have hp := h.inb (i, j) (by rw [e]; simp)
    simp only at hp
    have hr : ∀ p ∈ r, (a : Int) ≤ p.1 ∧ p.1 < p.2 ∧ p.2 ≤ (a : Int) + c - 1 := fun p hp => h.inb p (by rw [e]; simp [hp])
    split
    · refine ⟨?_, ?_⟩
      · have : ∀ t : Nat, t ≤ (j - i - 1).toNat → ∀ p ∈ pushK c ps i j r t, (a : Int) ≤ p.1 ∧ p.1 < p.2 ∧ p.2 ≤ (a : Int) + c - 1 := fun t => by
          induction t with
          | zero => exact fun _ => hr
          | succ t ih =>
            intro ht p hp
            unfold pushK at hp
            split at hp
            · rcases List.mem_cons.mp hp with rfl | hp
              · simp only; omega
              · rcases List.mem_cons.mp hp with rfl | hp
                · simp only; omega
                · exact ih (by omega) p hp
            · exact ih (by omega) p hp
        exact this _ (Nat.le_refl _)
      · have := pushK_len (n := c) (ps := ps) (i := i) (j := j) (r := r) (j - i - 1).toNat
        simp only
        omega
    · exact ⟨hr, by simp only; omega⟩
theorem UI.run {c a : Nat} {ps : List Pr2} {u : U} (hc : c ≤ 60) (h : UI c a u 0) : ∀ t, UI c a (urun c ps a u t) t
  | 0 => h
  | t + 1 => (UI.run hc h t).step hc
theorem stay {c a : Nat} {ps : List Pr2} {u : U} {t : Nat} (h : (urun c ps a u t).stk = []) : ∀ d, urun c ps a u (t + d) = urun c ps a u t
  | 0 => rfl
  | d + 1 => by
    show ustep c ps a (urun c ps a u (t + d)) = _
    rw [stay h d]
    unfold ustep
    rw [h]
theorem seen_len {c a : Nat} {ps : List Pr2} {u : U} : ∀ t, (urun c ps a u t).seen.length ≤ u.seen.length + t
  | 0 => Nat.le_refl _
  | t + 1 => by
    have := seen_len (c := c) (a := a) (ps := ps) (u := u) t
    show (ustep c ps a (urun c ps a u t)).seen.length ≤ _
    unfold ustep
    split
    · omega
    · split
      · simp only [List.length_cons]; omega
      · simp only; omega
theorem uans_len {c : Nat} {ps : List Pr2} (hc : c ≤ 60) : ∀ a, (uans c ps a).length ≤ 122 * a
  | 0 => Nat.le_refl _
  | a + 1 => by
    have := uans_len (ps := ps) hc a
    have h2 := seen_len (c := c) (a := a) (ps := ps) (u := ⟨[((a : Int), (a : Int) + c - 1)], uans c ps a⟩) (2 * c + 2)
    show (urun c ps a ⟨[((a : Int), (a : Int) + c - 1)], uans c ps a⟩ (2 * c + 2)).seen.length ≤ _
    simp only at h2
    omega
theorem fr_new {l : List (Nat × Pr2)} {a most : Nat} {p : Pr2} (ha : a < most) : (frD l most).set a (.int ((freshN l a : Int) + 1)) = frD ((a, p) :: l) most := by
  unfold frD
  rw [range_set ha]
  apply List.map_congr_left
  intro k _
  unfold freshN
  rw [List.countP_cons]
  by_cases e : k = a
  · subst e
    simp
  · rw [if_neg e, if_neg (by simpa using fun z => e z.symm)]
    rfl
theorem st_new {l : List (Nat × Pr2)} {a most j : Nat} {i : Int} (ha : j < most) : (stD l most).set j (.int ((stepsN l j : Int) + 1)) = stD ((a, (i, (j : Int))) :: l) most := by
  unfold stD
  rw [range_set ha]
  apply List.map_congr_left
  intro k _
  unfold stepsN
  rw [List.countP_cons]
  by_cases e : k = j
  · subst e
    simp
  · rw [if_neg e, if_neg (by simp; omega)]
    rfl
theorem noLs_fr {l : List (Nat × Pr2)} {m : Nat} : noLs (frD l m) = true := by
  have := noLs_ints ((List.range m).map fun m => (freshN l m : Int))
  rwa [List.map_map] at this
theorem noLs_st {l : List (Nat × Pr2)} {m : Nat} : noLs (stD l m) = true := by
  have := noLs_ints ((List.range m).map fun (m : Nat) => (stepsN l m : Int))
  rwa [List.map_map] at this
end K30.P

set_option maxHeartbeats 4000000
/-! k30: the strip unrolled, walked. -/
namespace K30.P
open PySem Uq
theorem tbl_snoc {c : Nat} {r : Int → List Int} {ds : List D} (e : ds = (r c).map PyData.int) : tbl c r ++ [ds] = tbl (c + 1) r := by
  subst e
  simp [tbl, List.range_succ]
theorem em {a : Int} {c : Nat} : a.fmod c = a % c := Int.fmod_eq_emod_of_nonneg a (by omega)
/-- one answer's turns -/
theorem turns {n c a most : Nat} {ps : List Pr2} {R B : Uq.Env → Prop} {rt : QD} {ex : Nat → List D → Uq.Env → Prop} (hc : c ≤ 60) (h2 : 2 ≤ c) (ha : a < most) (hm : most ≤ 200)
    (fin : ∀ s5 s6 : Sl, R [.va (.int c), .va (.tuple (ps.map prD)), .va (.int most), .nl (tbl c (nearL c ps)), .no, s5, s6, .dc true (kv (uans c ps (a + 1))), .ol (frD (uans c ps (a + 1)) most), .no, .ol (stD (uans c ps (a + 1)) (most + c)), .no, .no, .no]) :
    wSs ⟨wC T sub flds n, sub, flds⟩ [.asg 11 (.lst [(.tup [(.var 9), (.bin .sub (.bin .add (.var 9) (.var 0)) (.int 1))])]), .kil [4, 5, 6, 12, 13], .fr (.nm 12) .rng1 [(.bin .add (.bin .mul (.int 2) (.var 0)) (.int 2))] [.ite (.not (.var 11)) [.kil [5, 6, 12, 13], .brk] [], .popU [5, 6] 11, .ite (.and (.cmp .gt (.bin .sub (.var 6) (.var 5)) (.int 1)) (.dq (.mem true) true [(.var 5), (.var 6)] 7 [])) [.dput 7 true [(.var 5), (.var 6)] (.bl true), .put 8 (.var 9) (.bin .add (.ixo 8 (.var 9)) (.int 1)), .put 10 (.var 6) (.bin .add (.ixo 10 (.var 6)) (.int 1)), .kil [4, 12, 13], .fr (.nm 13) .rng2 [(.bin .add (.var 5) (.int 1)), (.var 6)] [.ite (.and (.mem false (.bin .mod (.bi .int [(.var 13)]) (.var 0)) (.ix (.var 3) (.bin .mod (.bi .int [(.var 5)]) (.var 0)))) (.mem false (.bin .mod (.bi .int [(.var 13)]) (.var 0)) (.ix (.var 3) (.bin .mod (.bi .int [(.var 6)]) (.var 0))))) [.app 11 (.tup [(.var 5), (.var 13)]), .app 11 (.tup [(.var 13), (.var 6)])] [], .kil [13]], .kil [5, 6, 13]] [], .kil [5, 6, 12, 13]], .kil [5, 6, 9, 11, 12, 13], .kil [5, 6, 9, 11, 12, 13]]
      [.va (.int c), .va (.tuple (ps.map prD)), .va (.int most), .nl (tbl c (nearL c ps)), .no, .no, .no, .dc true (kv (uans c ps a)), .ol (frD (uans c ps a) most), .va (.int a), .ol (stD (uans c ps a) (most + c)), .no, .no, .no] ⟨R, rt, B, R, ex⟩ := by
  have hs0 := uans_len (ps := ps) hc a
  have eu : uans c ps (a + 1) = (urun c ps a ⟨[((a : Int), (a : Int) + c - 1)], uans c ps a⟩ (2 * c + 2)).seen := rfl
  generalize hu0 : (⟨[((a : Int), (a : Int) + c - 1)], uans c ps a⟩ : U) = u0 at eu
  have i0 : UI c a u0 0 := by
    subst hu0
    refine ⟨fun p hp => ?_, by simp⟩
    rw [List.mem_singleton.mp hp]
    simp only
    omega
  have hsl : u0.seen.length ≤ 122 * a := by rw [← hu0]; exact hs0
  have hstk : [PyData.tuple [PyData.int a, PyData.int ((a : Int) + c - 1)]] = (u0.stk.reverse).map prD := by rw [← hu0]; rfl
  have hseen : uans c ps a = u0.seen := by rw [← hu0]
  rw [hseen]
  rw [eu] at fin
  clear eu hs0 hseen hu0
  simp
  refine ⟨mul_l (by decide) (by decide), ⟨by omega, by omega⟩, ?_⟩
  rw [hstk, show ((2 : Int) * c + 2).toNat = 2 * c + 2 by omega, show upto 0 (2 * c + 2) = upto (0 + ((0 : Nat) : Int)) (2 * c + 2) from rfl]
  refine frW_upto (lo := 0) (m := 2 * c + 2) (I := fun t ρ => ∃ s12, ρ = [.va (.int c), .va (.tuple (ps.map prD)), .va (.int most), .nl (tbl c (nearL c ps)), .no, .no, .no, .dc true (kv (urun c ps a u0 t).seen), .ol (frD (urun c ps a u0 t).seen most), .va (.int a), .ol (stD (urun c ps a u0 t).seen (most + c)), .ol ((urun c ps a u0 t).stk.reverse.map prD), s12, .no]) ?_ ?_ (2 * c + 2) 0 _ (by omega) ⟨.no, rfl⟩
  · rintro ρ ⟨s12, rfl⟩
    simp
    exact fin _ _
  · rintro t ρ R' ht ⟨s12, rfl⟩ hR
    have hi := i0.run (ps := ps) hc t
    have hsl2 := seen_len (c := c) (a := a) (ps := ps) (u := u0) t
    have hst : ∀ d, (urun c ps a u0 t).stk = [] → urun c ps a u0 (t + d) = urun c ps a u0 t := fun d h => stay h d
    have hnx : urun c ps a u0 (t + 1) = ustep c ps a (urun c ps a u0 t) := rfl
    rw [hnx] at hR
    have hfin : (urun c ps a u0 t).stk = [] → (urun c ps a u0 (2 * c + 2)).seen = (urun c ps a u0 t).seen := fun h => by
      have := hst (2 * c + 2 - t) h
      rw [← this]
      congr 2
      omega
    clear hnx hst
    generalize urun c ps a u0 t = u at *
    obtain ⟨stk, seen⟩ := u
    cases stk with
    | nil =>
      have e := hfin rfl
      simp only at e
      rw [e] at fin
      simp
      exact fin _ _
    | cons p r =>
      obtain ⟨i, j⟩ := p
      have hp := hi.inb (i, j) (by simp)
      have hl := hi.len
      simp only [List.length_cons] at hl hp hsl2
      clear hfin hi
      have hne : ((r.reverse.map prD ++ [prD (i, j)]).isEmpty) = false := by simp
      simp only [List.reverse_cons, List.map_append, List.map_cons, List.map_nil]
      simp
      refine popUR_snoc ?_
      simp [prD, pr]
      unfold ustep at hR
      simp only at hR
      have hlk := look_kv (l := seen) (p := (i, j))
      simp only at hlk
      by_cases hb : (decide (1 < j - i) && newB seen (i, j)) = true
      · rw [if_pos hb] at hR
        rw [Bool.and_eq_true, decide_eq_true_eq] at hb
        obtain ⟨hb1, hb2⟩ := hb
        rw [hb2] at hlk
        have hlk : look (kv seen) [i, j] = none := by
          cases e : look (kv seen) [i, j] with
          | none => rfl
          | some _ => rw [e] at hlk; cases hlk
        obtain ⟨jn, rfl⟩ := Int.eq_ofNat_of_zero_le (show 0 ≤ j by omega)
        have e8 : L2.atI (frD seen most) (a : Int) = some (.int (freshN seen a)) := range_at ha
        have e10 : L2.atI (stD seen (most + c)) (jn : Int) = some (.int (stepsN seen jn)) := range_at (f := fun s => (stepsN seen s : Int)) (by omega)
        have hpk := put_kv (a := a) hb2
        simp only at hpk
        simp [hb1, hlk, hpk, e8, e10]
        refine ⟨lt_size (by simp [kv]; omega), a, ixN_nat (by simp [frD]; exact ha), jn, ixN_nat (by simp [stD]; omega), ⟨by omega, by omega, by omega⟩, ?_⟩
        rw [fr_new (p := (i, (jn : Int))) ha, st_new (a := a) (i := i) (show jn < most + c by omega)]
        have eup : upto (i + 1) ((jn : Int) - (i + 1)).toNat = upto ((i + 1) + ((0 : Nat) : Int)) (((jn : Int) - i - 1).toNat) := by
          rw [show (jn : Int) - (i + 1) = jn - i - 1 by omega]
          simp
        rw [eup]
        refine frW_upto (lo := i + 1) (m := ((jn : Int) - i - 1).toNat) (I := fun t ρ => ∃ s13, ρ = [.va (.int c), .va (.tuple (ps.map prD)), .va (.int most), .nl (tbl c (nearL c ps)), .no, .va (.int i), .va (.int jn), .dc true (kv ((a, (i, (jn : Int))) :: seen)), .ol (frD ((a, (i, (jn : Int))) :: seen) most), .va (.int a), .ol (stD ((a, (i, (jn : Int))) :: seen) (most + c)), .ol ((pushK c ps i jn r t).reverse.map prD), .no, s13]) ?_ ?_ _ 0 _ (by omega) ⟨.no, by simp [pushK]⟩
        · rintro ρ ⟨s13, rfl⟩
          simp
          exact hR _ ⟨.no, by simp⟩
        · rintro k ρ R2 hk ⟨s13, rfl⟩ hR2
          have hpl := pushK_len (n := c) (ps := ps) (i := i) (j := (jn : Int)) (r := r) k
          have m1 := Int.emod_nonneg i (show (c : Int) ≠ 0 by omega)
          have m2 := Int.emod_lt_of_pos i (show (0 : Int) < c by omega)
          have m3 := Int.emod_nonneg (jn : Int) (show (c : Int) ≠ 0 by omega)
          have m4 := Int.emod_lt_of_pos (jn : Int) (show (0 : Int) < c by omega)
          have t1 := tbl_ix (c := c) (r := nearL c ps) m1 m2
          have t2 := tbl_ix (c := c) (r := nearL c ps) m3 m4
          have hc0 : ¬ c = 0 := by omega
          simp [em, t1, t2, hc0]
          refine mem_ints ?_
          have hR3 := hR2 [.va (.int c), .va (.tuple (ps.map prD)), .va (.int most), .nl (tbl c (nearL c ps)), .no, .va (.int i), .va (.int jn), .dc true (kv ((a, (i, (jn : Int))) :: seen)), .ol (frD ((a, (i, (jn : Int))) :: seen) most), .va (.int a), .ol (stD ((a, (i, (jn : Int))) :: seen) (most + c)), .ol ((pushK c ps i jn r (k + 1)).reverse.map prD), .no, .no] ⟨.no, rfl⟩
          unfold pushK at hR3
          generalize hx : i + 1 + (k : Int) = x at *
          by_cases c1 : (nearL c ps (i % c)).contains (x % c) = true
          · rw [c1] at hR3 ⊢
            simp
            refine mem_ints ?_
            by_cases c2 : (nearL c ps ((jn : Int) % c)).contains (x % c) = true
            · rw [c2] at hR3 ⊢
              simp [prD, pr] at hR3 ⊢
              exact ⟨lt_size (by omega), lt_size (by omega), hR3⟩
            · have c2' := Bool.eq_false_iff.mpr c2
              rw [c2'] at hR3 ⊢
              simp at hR3 ⊢
              exact hR3
          · have c1' := Bool.eq_false_iff.mpr c1
            rw [c1'] at hR3 ⊢
            simp at hR3 ⊢
            exact hR3
      · have hb' := Bool.eq_false_iff.mpr hb
        rw [if_neg hb] at hR
        have hR3 := hR _ ⟨.no, rfl⟩
        simp only at hR3
        by_cases hb1 : 1 < j - i
        · rw [decide_eq_true hb1, Bool.true_and] at hb'
          rw [hb'] at hlk
          have hlk : ¬ look (kv seen) [i, j] = none := fun e => by rw [e] at hlk; cases hlk
          simp [hb1, hlk]
          simpa using hR3
        · simp [hb1]
          simpa using hR3
theorem law_unrolled {n c most : Nat} {ps : List Pr2} {Q : QD} {E : Ex} (ct : Cut c ps) (hm : most ≤ 100) (h : Q (.tuple [.list (frD (uans c ps most) most), .list (stD (uans c ps most) (most + c))])) : W (n + 1) f__law_unrolled [.int c, .tuple (ps.map prD), .int most] Q E := by
  refine wC_of (fn := fn__law_unrolled) rfl rfl ?_
  have h2 := ct.n2
  have h60 := ct.n60
  have hl := ct.len
  have hc0 : ¬ c = 0 := by omega
  simp [fn__law_unrolled]
  refine ⟨by omega, ?_⟩
  rw [show upto 0 c = upto (0 + ((0 : Nat) : Int)) c from rfl]
  refine frW_upto (lo := 0) (m := c) (I := fun k ρ => ∃ s4, ρ = [.va (.int c), .va (.tuple (ps.map prD)), .va (.int most), .nl (tbl k (baseL c)), s4, .no, .no, .no, .no, .no, .no, .no, .no, .no]) ?_ ?_ c 0 _ (by omega) ⟨.no, rfl⟩
  · rintro ρ ⟨s4, rfl⟩
    simp
    have l1 : ∀ (dn : List Pr2) (k : Int), dn.length ≤ 3600 → (nearL c dn k).length ≤ 20000 := fun dn k hd => by
      unfold nearL baseL
      rw [List.length_append, rowOf_len]
      have := endsN_le (l := dn) (k := k)
      simp only [List.length_cons, List.length_nil]
      omega
    refine frW_ind (I := fun es ρ => ∃ dn rs s5 s6, ps = dn ++ rs ∧ es = rs.map prD ∧ ρ = [.va (.int c), .va (.tuple (ps.map prD)), .va (.int most), .nl (tbl c (nearL c dn)), .no, s5, s6, .no, .no, .no, .no, .no, .no, .no]) ?_ ?_ _ _ ⟨[], ps, .no, .no, rfl, rfl, ?_⟩
    · rintro ρ ⟨dn, rs, s5, s6, e1, e2, rfl⟩
      have : rs = [] := by
        cases rs with
        | nil => rfl
        | cons _ _ => cases e2
      subst this
      rw [List.append_nil] at e1
      subst e1
      simp
      refine ⟨by omega, ?_⟩
      refine lcG_map (fun _ => PyData.int 0) _ _ (fun x hx R hR => ?_) (by rw [upto_len]; exact le_size (by simp; omega)) ?_
      · rw [upto_map] at hx
        obtain ⟨k, _, rfl⟩ := List.mem_map.mp hx
        simp
        exact hR
      have z1 : ∀ m : Nat, ([] : List D) ++ (upto 0 m).map (fun _ => PyData.int 0) = frD [] m := fun m => by
        rw [List.nil_append, upto_map, List.map_map]
        rfl
      have z2 : frD [] (most + c) = stD [] (most + c) := rfl
      rw [z1, asgn_l rfl noLs_fr]
      simp
      refine ⟨by omega, ?_⟩
      refine lcG_map (fun _ => PyData.int 0) _ _ (fun x hx R hR => ?_) (by rw [upto_len]; exact le_size (by simp; omega)) ?_
      · rw [upto_map] at hx
        obtain ⟨k, _, rfl⟩ := List.mem_map.mp hx
        simp
        exact hR
      rw [show ((most : Int) + c).toNat = most + c by omega, z1, z2, asgn_l rfl noLs_st]
      simp
      refine ⟨by omega, ?_⟩
      rw [show upto 0 most = upto (0 + ((0 : Nat) : Int)) most from rfl]
      refine frW_upto (lo := 0) (m := most) (I := fun a ρ => ∃ s5 s6, ρ = [.va (.int c), .va (.tuple (ps.map prD)), .va (.int most), .nl (tbl c (nearL c ps)), .no, s5, s6, .dc true (kv (uans c ps a)), .ol (frD (uans c ps a) most), .no, .ol (stD (uans c ps a) (most + c)), .no, .no, .no]) ?_ ?_ most 0 _ (by omega) ⟨_, _, rfl⟩
      · rintro ρ ⟨s5, s6, rfl⟩
        simp
        exact h
      · rintro a ρ R ha ⟨s5, s6, rfl⟩ hR
        rw [Int.zero_add]
        have hR' : ∀ s5 s6 : Sl, R [.va (.int c), .va (.tuple (ps.map prD)), .va (.int most), .nl (tbl c (nearL c ps)), .no, s5, s6, .dc true (kv (uans c ps (a + 1))), .ol (frD (uans c ps (a + 1)) most), .no, .ol (stD (uans c ps (a + 1)) (most + c)), .no, .no, .no] := fun s5 s6 => hR _ ⟨s5, s6, rfl⟩
        clear hR
        simp only [List.set_cons_succ, List.set_cons_zero]
        exact turns (most := most) (a := a) (c := c) (ps := ps) h60 h2 ha (by omega) hR'
    · rintro x es ρ R ⟨dn, rs, s5, s6, e1, e2, rfl⟩ hR
      cases rs with
      | nil => cases e2
      | cons p rs =>
        cases e2
        have hp := ct.inb (p := p) (by rw [e1]; simp)
        have hdl : dn.length ≤ 3600 := by
          rw [e1, List.length_append] at hl
          omega
        obtain ⟨p1, p2⟩ := p
        simp only at hp
        obtain ⟨a, rfl⟩ := Int.eq_ofNat_of_zero_le hp.1
        obtain ⟨b, rfl⟩ := Int.eq_ofNat_of_zero_le (show 0 ≤ p2 by omega)
        have ha : a < c := by omega
        have hb : b < c := by omega
        have s1 : (tbl c (nearL c dn)).set a ((nearL c dn a).map PyData.int ++ [.int (b : Int)]) = tbl c (fun k => if k = (a : Int) then nearL c dn k ++ [(b : Int)] else nearL c dn k) := tbl_set ha (by simp) fun j hj => by
          rw [if_neg (by omega)]
        have s2 : (tbl c (fun k => if k = (a : Int) then nearL c dn k ++ [(b : Int)] else nearL c dn k)).set b ((nearL c dn b).map PyData.int ++ [.int (a : Int)]) = tbl c (nearL c (dn ++ [((a : Int), (b : Int))])) := by
          have eb' : (nearL c dn b).map PyData.int = ((fun k => if k = (a : Int) then nearL c dn k ++ [(b : Int)] else nearL c dn k) (b : Int)).map PyData.int := by
            simp only
            rw [if_neg (by omega)]
          rw [eb']
          refine tbl_set hb ?_ fun j hj => ?_
          · unfold nearL
            rw [rowOf_snoc, if_neg (by omega)]
            unfold one1
            rw [if_neg (by simp only; omega), if_pos rfl]
            simp
          · unfold nearL
            rw [rowOf_snoc]
            unfold one1
            by_cases e : (j : Int) = (a : Int)
            · rw [if_pos e, if_pos (by simp only; omega), if_neg (by simp only; omega)]
              simp
            · rw [if_neg e, if_neg (by simp only; omega), if_neg (by simp only; omega)]
              simp
        simp [prD, pr]
        refine ⟨a, ixN_nat (by rw [tbl_len]; exact ha), _, tbl_at ha, by rw [List.length_map]; exact lt_size (by have := l1 dn a hdl; omega), ?_⟩
        rw [s1]
        refine ⟨b, ixN_nat (by rw [tbl_len]; exact hb), (nearL c dn b).map PyData.int, ?_, by rw [List.length_map]; exact lt_size (by have := l1 dn b hdl; omega), ?_⟩
        · rw [tbl_at hb, if_neg (by omega)]
        · rw [s2]
          exact hR _ ⟨dn ++ [((a : Int), (b : Int))], rs, .no, .no, by rw [e1]; simp, rfl, rfl⟩
    · have : nearL c [] = baseL c := by
        funext k
        simp [nearL, rowOf]
      rw [this]
      rfl
  · rintro k ρ R hk ⟨s4, rfl⟩ hR
    simp [em, hc0]
    refine ⟨by rw [tbl_len]; exact lt_size (by omega), ?_⟩
    rw [tbl_snoc (r := baseL c) (c := k) (ds := [PyData.int (((k : Int) + 1) % c), PyData.int (((k : Int) - 1) % c)]) rfl]
    exact hR _ ⟨.no, rfl⟩
end K30.P

set_option maxHeartbeats 2000000
/-! k30: every cutting of few corners. -/
namespace K30.P
open PySem Uq
def crsB (q p : Pr2) : Bool := decide (q.1 < p.1) && (decide (p.1 < q.2) && decide (q.2 < p.2))
def ext : List Pr2 → List (List Pr2)
  | [] => [[]]
  | c :: cs => ext cs ++ ((ext cs).filter fun l => l.all fun p => !crsB c p).map (c :: ·)
def cands (n : Nat) : List Pr2 := (List.range n).flatMap fun (i : Nat) => ((List.range n).map fun (j : Nat) => ((i : Int), (j : Int))).filter (chordB n)
def gen (n : Nat) : List (List Pr2) := (ext (cands n)).filter fun l => decide (n ≤ l.length + 3)
theorem crs_B {q p : Pr2} : crsB q p = true ↔ crs q p := by simp [crsB]
theorem mem_cands {n : Nat} {p : Pr2} (h : chordB n p = true) : p ∈ cands n := by
  have h' := of_decide_eq_true h
  obtain ⟨p1, p2⟩ := p
  simp only at h'
  obtain ⟨i, rfl⟩ := Int.eq_ofNat_of_zero_le h'.1
  obtain ⟨j, rfl⟩ := Int.eq_ofNat_of_zero_le h'.2.1
  exact List.mem_flatMap.mpr ⟨i, by rw [List.mem_range]; omega, List.mem_filter.mpr ⟨List.mem_map.mpr ⟨j, by rw [List.mem_range]; omega, rfl⟩, h⟩⟩
def upB : List Pr2 → Bool
  | [] => true
  | p :: l => l.all (fun q => decide (lt2 p q)) && upB l
theorem up_B : ∀ {l : List Pr2}, upB l = true → Up l
  | [], _ => List.Pairwise.nil
  | p :: l, h => by
    unfold upB at h
    rw [Bool.and_eq_true] at h
    exact List.Pairwise.cons (fun q hq => of_decide_eq_true (List.all_eq_true.mp h.1 q hq)) (up_B h.2)
theorem cands_up : ((List.range 9).all fun n => upB (cands n)) = true := by decide +kernel
theorem ext_mem : ∀ {cs ps : List Pr2}, ps.Sublist cs → ps.Pairwise (fun q p => ¬ crs q p) → ps ∈ ext cs
  | _, _, .slnil, _ => by simp [ext]
  | _, _, .cons c h, hp => by
    unfold ext
    exact List.mem_append_left _ (ext_mem h hp)
  | _, _, .cons₂ (l₁ := l) c h, hp => by
    unfold ext
    rw [List.pairwise_cons] at hp
    refine List.mem_append_right _ (List.mem_map.mpr ⟨l, List.mem_filter.mpr ⟨ext_mem h hp.2, List.all_eq_true.mpr fun p h1 => ?_⟩, rfl⟩)
    rw [Bool.not_eq_true']
    exact Bool.eq_false_iff.mpr fun z => hp.1 p h1 (crs_B.mp z)
theorem mem_gen {n : Nat} {ps : List Pr2} (ct : Cut n ps) (hn : n ≤ 8) : ps ∈ gen n := by
  refine List.mem_filter.mpr ⟨ext_mem ?_ (ct.nc.imp fun h => h.2), decide_eq_true ct.ln⟩
  have hu : Up (cands n) := up_B (List.all_eq_true.mp cands_up n (by rw [List.mem_range]; omega))
  have e : ps = (cands n).filter fun p => decide (p ∈ ps) := up_uniq ct.up (hu.filter _) fun x => by
    rw [List.mem_filter, decide_eq_true_eq]
    exact ⟨fun h => ⟨mem_cands (ct.ch x h), h⟩, fun h => h.2⟩
  rw [e]
  exact List.filter_sublist
def chk (n : Nat) (ps : List Pr2) (S : List (Nat × Pr2)) : Bool :=
  ((List.range (2 * n + 2)).all fun m => decide ((freshN S m : Int) = apF n ps m)) &&
  (((List.range (3 * n)).all fun s => decide ((stepsN S ((s : Int) + 1) : Int) = sjF n ps ((s : Int) + 1))) &&
  ((S.all fun q => decide (1 ≤ q.2.2 ∧ q.2.2 ≤ (q.1 : Int) + n - 1 ∧ (q.1 = 0 ∨ q.2.2 = (q.1 : Int) + n - 1))) &&
  (((List.range (2 * n + 3)).all fun m => decide (fjF n (fanL n (n - 1)) m ≤ fjF n ps m)) &&
  (decide (ps = fanL n (n - 1)) || (List.range (n + 4)).any fun m => decide (fjF n (fanL n (n - 1)) m < fjF n ps m)))))
end K30.P

set_option maxHeartbeats 2000000
/-! k30: every cutting of few corners, looked at. -/
namespace K30.P
open PySem Uq
def chkS (n a b : Nat) : Bool := (((gen n).drop a).take b).all fun ps => chk n ps (uans n ps (2 * n + 2))
theorem chkS_app {n a b d : Nat} (h1 : chkS n a b = true) (h2 : chkS n (a + b) d = true) : chkS n a (b + d) = true := by
  unfold chkS at *
  rw [List.take_add, List.all_append, Bool.and_eq_true, List.drop_drop]
  exact ⟨h1, h2⟩
theorem chk_2 : ((List.range 5).all fun n => chkS (n + 2) 0 1000) = true := by decide +kernel
theorem chk_7_0 : chkS 7 0 14 = true := by decide +kernel
theorem chk_7_14 : chkS 7 14 14 = true := by decide +kernel
theorem chk_7_28 : chkS 7 28 14 = true := by decide +kernel
theorem chk_8_0 : chkS 8 0 11 = true := by decide +kernel
theorem chk_8_11 : chkS 8 11 11 = true := by decide +kernel
theorem chk_8_22 : chkS 8 22 11 = true := by decide +kernel
theorem chk_8_33 : chkS 8 33 11 = true := by decide +kernel
theorem chk_8_44 : chkS 8 44 11 = true := by decide +kernel
theorem chk_8_55 : chkS 8 55 11 = true := by decide +kernel
theorem chk_8_66 : chkS 8 66 11 = true := by decide +kernel
theorem chk_8_77 : chkS 8 77 11 = true := by decide +kernel
theorem chk_8_88 : chkS 8 88 11 = true := by decide +kernel
theorem chk_8_99 : chkS 8 99 11 = true := by decide +kernel
theorem chk_8_110 : chkS 8 110 11 = true := by decide +kernel
theorem chk_8_121 : chkS 8 121 11 = true := by decide +kernel
theorem len_78 : (gen 7).length = 42 ∧ (gen 8).length = 132 := by decide +kernel
theorem chk_7 : chkS 7 0 42 = true := (chkS_app (chkS_app chk_7_0 chk_7_14) chk_7_28)
theorem chk_8 : chkS 8 0 132 = true := (chkS_app (chkS_app (chkS_app (chkS_app (chkS_app (chkS_app (chkS_app (chkS_app (chkS_app (chkS_app (chkS_app chk_8_0 chk_8_11) chk_8_22) chk_8_33) chk_8_44) chk_8_55) chk_8_66) chk_8_77) chk_8_88) chk_8_99) chk_8_110) chk_8_121)
theorem chk_all {n : Nat} {ps : List Pr2} (h2 : 2 ≤ n) (h8 : n ≤ 8) (hp : ps ∈ gen n) (hl : (gen n).length ≤ 1000) : chk n ps (uans n ps (2 * n + 2)) = true := by
  have big : ∀ b, chkS n 0 b = true → (gen n).length ≤ b → chk n ps (uans n ps (2 * n + 2)) = true := fun b h hb => by
    unfold chkS at h
    rw [List.drop_zero, List.take_of_length_le hb] at h
    exact List.all_eq_true.mp h ps hp
  by_cases e7 : n = 7
  · subst e7
    exact big _ chk_7 (by rw [len_78.1]; exact Nat.le_refl _)
  · by_cases e8 : n = 8
    · subst e8
      exact big _ chk_8 (by rw [len_78.2]; exact Nat.le_refl _)
    · have := List.all_eq_true.mp chk_2 (n - 2) (by rw [List.mem_range]; omega)
      rw [show n - 2 + 2 = n by omega] at this
      exact big _ this hl
theorem gen_len {n : Nat} (h2 : 2 ≤ n) (h8 : n ≤ 8) : (gen n).length ≤ 1000 := by
  by_cases e7 : n = 7
  · rw [e7, len_78.1]; decide
  · by_cases e8 : n = 8
    · rw [e8, len_78.2]; decide
    · have : ((List.range 5).all fun n => decide ((gen (n + 2)).length ≤ 1000)) = true := by decide +kernel
      have := List.all_eq_true.mp this (n - 2) (by rw [List.mem_range]; omega)
      rw [show n - 2 + 2 = n by omega] at this
      exact of_decide_eq_true this
end K30.P

set_option maxHeartbeats 2000000
/-! k30: sums; what looking at every cutting gives. -/
namespace K30.P
open PySem Uq
def sumI (f : Nat → Int) : Nat → Int
  | 0 => 0
  | n + 1 => sumI f n + f n
theorem sumI_add {f g : Nat → Int} : ∀ n, sumI (fun k => f k + g k) n = sumI f n + sumI g n
  | 0 => rfl
  | n + 1 => by
    unfold sumI
    rw [sumI_add n]
    omega
theorem sumI_congr {f g : Nat → Int} : ∀ {n : Nat}, (∀ k, k < n → f k = g k) → sumI f n = sumI g n
  | 0, _ => rfl
  | n + 1, h => by
    unfold sumI
    rw [sumI_congr fun k hk => h k (by omega), h n (by omega)]
theorem sumI_one {x : Nat} : ∀ n : Nat, sumI (fun k => if x = k then 1 else 0) n = if x < n then 1 else 0
  | 0 => rfl
  | n + 1 => by
    unfold sumI
    rw [sumI_one n]
    repeat' split
    all_goals omega
theorem sumI_zero : ∀ n : Nat, sumI (fun _ => 0) n = 0
  | 0 => rfl
  | n + 1 => by
    unfold sumI
    rw [sumI_zero n]
    rfl
theorem sum_count {α : Type} {f : α → Nat} {K : Nat} : ∀ {l : List α}, (∀ q ∈ l, f q < K) → sumI (fun k => ((l.countP fun q => decide (f q = k) : Nat) : Int)) K = l.length
  | [], _ => by
    show sumI (fun _ => 0) K = 0
    exact sumI_zero K
  | x :: l, h => by
    have e : (fun k => (((x :: l).countP fun q => decide (f q = k) : Nat) : Int)) = fun k => ((l.countP fun q => decide (f q = k) : Nat) : Int) + if f x = k then 1 else 0 := by
      funext k
      rw [List.countP_cons]
      by_cases e : f x = k
      · rw [if_pos (by simpa using e), if_pos e]
        omega
      · rw [if_neg (by simpa using e), if_neg e]
        omega
    rw [e, sumI_add, sum_count fun q hq => h q (List.mem_cons_of_mem _ hq), sumI_one, if_pos (h x List.mem_cons_self), List.length_cons]
    omega
theorem sum_nn {f : Nat → Int} : ∀ {n : Nat}, (∀ k, k < n → 0 ≤ f k) → 0 ≤ sumI f n ∧ (sumI f n = 0 → ∀ k, k < n → f k = 0)
  | 0, _ => ⟨Int.le_refl _, fun _ k hk => by omega⟩
  | n + 1, h => by
    have i := sum_nn (f := f) (n := n) fun k hk => h k (by omega)
    have hn := h n (by omega)
    unfold sumI
    refine ⟨by omega, fun e k hk => ?_⟩
    by_cases ek : k = n
    · subst ek; omega
    · exact i.2 (by omega) k (by omega)
/-- answers told one after another -/
theorem ap_sum {c : Nat} {ps : List Pr2} (ct : Cut c ps) : ∀ m : Nat, sumI (fun k => apF c ps k) m = fjF c ps m
  | 0 => by
    unfold fjF
    rw [if_pos (.inl rfl)]
    rfl
  | m + 1 => by
    unfold sumI
    rw [ap_sum ct m, ap_fj ct (by omega)]
    rw [show ((m + 1 : Nat) : Int) = (m : Int) + 1 by omega]
    omega
theorem urun_ext {n a : Nat} {ps : List Pr2} {u : U} : ∀ t, ∃ new : List (Nat × Pr2), (urun n ps a u t).seen = new ++ u.seen ∧ ∀ q ∈ new, q.1 = a
  | 0 => ⟨[], rfl, fun _ h => nomatch h⟩
  | t + 1 => by
    obtain ⟨new, e, h⟩ := urun_ext (n := n) (a := a) (ps := ps) (u := u) t
    show ∃ new, (ustep n ps a (urun n ps a u t)).seen = _ ∧ _
    unfold ustep
    split
    · exact ⟨new, e, h⟩
    · split
      · refine ⟨(a, _) :: new, by rw [List.cons_append, ← e], fun q hq => ?_⟩
        rcases List.mem_cons.mp hq with rfl | hq
        · rfl
        · exact h q hq
      · exact ⟨new, e, h⟩
theorem uans_ext {n m : Nat} {ps : List Pr2} : ∀ d, ∃ new : List (Nat × Pr2), uans n ps (m + d) = new ++ uans n ps m ∧ ∀ q ∈ new, m ≤ q.1
  | 0 => ⟨[], rfl, fun _ h => nomatch h⟩
  | d + 1 => by
    obtain ⟨new, e, h⟩ := uans_ext (n := n) (m := m) (ps := ps) d
    obtain ⟨new2, e2, h2⟩ := urun_ext (n := n) (a := m + d) (ps := ps) (u := ⟨[(((m + d : Nat) : Int), ((m + d : Nat) : Int) + n - 1)], uans n ps (m + d)⟩) (2 * n + 2)
    refine ⟨new2 ++ new, ?_, fun q hq => ?_⟩
    · have e3 : uans n ps (m + d + 1) = new2 ++ uans n ps (m + d) := e2
      show uans n ps (m + d + 1) = _
      rw [e3, e, List.append_assoc]
    · rcases List.mem_append.mp hq with hq | hq
      · have := h2 q hq
        omega
      · exact h q hq
theorem uans_own {n : Nat} {ps : List Pr2} : ∀ m, ∀ q ∈ uans n ps m, q.1 < m
  | 0, _, h => nomatch h
  | m + 1, q, hq => by
    obtain ⟨new2, e2, h2⟩ := urun_ext (n := n) (a := m) (ps := ps) (u := ⟨[((m : Int), (m : Int) + n - 1)], uans n ps m⟩) (2 * n + 2)
    have e : uans n ps (m + 1) = new2 ++ uans n ps m := e2
    rw [e] at hq
    rcases List.mem_append.mp hq with hq | hq
    · have := h2 q hq
      omega
    · have := uans_own m q hq
      omega
/-- what is looked up in the finite list -/
structure Good (n : Nat) (ps : List Pr2) : Prop where
  fr : ∀ most, n + 3 ≤ most → most ≤ 2 * n + 2 → ∀ m : Nat, m < most → (freshN (uans n ps most) m : Int) = apF n ps m
  st : ∀ most, n + 3 ≤ most → most ≤ 2 * n + 2 → ∀ s : Nat, 1 ≤ s → s + 1 < most + n → (stepsN (uans n ps most) s : Int) = sjF n ps s
  tot : ∀ most, n + 3 ≤ most → most ≤ 2 * n + 2 → sumI (fun s => sjF n ps ((s : Int) + 1)) (most + n - 2) = fjF n ps most
  le : ∀ m : Nat, m ≤ 2 * n + 2 → fjF n (fanL n (n - 1)) m ≤ fjF n ps m
  ne : ps = fanL n (n - 1) ∨ ∃ m : Nat, m < n + 4 ∧ fjF n (fanL n (n - 1)) m < fjF n ps m
theorem good_of {n : Nat} {ps : List Pr2} (ct : Cut n ps) (h : chk n ps (uans n ps (2 * n + 2)) = true) : Good n ps := by
  unfold chk at h
  simp only [Bool.and_eq_true, Bool.or_eq_true] at h
  obtain ⟨h1, h2, h3, h4, h5⟩ := h
  have h2n := ct.n2
  have a1 : ∀ m : Nat, m < 2 * n + 2 → (freshN (uans n ps (2 * n + 2)) m : Int) = apF n ps m := fun m hm => of_decide_eq_true (List.all_eq_true.mp h1 m (List.mem_range.mpr hm))
  have a2 : ∀ s : Nat, s < 3 * n → (stepsN (uans n ps (2 * n + 2)) ((s : Int) + 1) : Int) = sjF n ps ((s : Int) + 1) := fun s hs => of_decide_eq_true (List.all_eq_true.mp h2 s (List.mem_range.mpr hs))
  have a3 : ∀ q ∈ uans n ps (2 * n + 2), 1 ≤ q.2.2 ∧ q.2.2 ≤ (q.1 : Int) + n - 1 ∧ (q.1 = 0 ∨ q.2.2 = (q.1 : Int) + n - 1) := fun q hq => of_decide_eq_true (List.all_eq_true.mp h3 q hq)
  have cutm : ∀ most, most ≤ 2 * n + 2 → ∃ new : List (Nat × Pr2), uans n ps (2 * n + 2) = new ++ uans n ps most ∧ ∀ q ∈ new, most ≤ q.1 := fun most hm => by
    have := uans_ext (n := n) (m := most) (ps := ps) (2 * n + 2 - most)
    rwa [show most + (2 * n + 2 - most) = 2 * n + 2 by omega] at this
  have fr : ∀ most, n + 3 ≤ most → most ≤ 2 * n + 2 → ∀ m : Nat, m < most → (freshN (uans n ps most) m : Int) = apF n ps m := fun most l1 l2 m hm => by
    obtain ⟨new, e, hn⟩ := cutm most l2
    rw [← a1 m (by omega), e]
    unfold freshN
    rw [List.countP_append]
    have : (new.countP fun q => decide (q.1 = m)) = 0 := by
      rw [List.countP_eq_zero]
      intro q hq
      have := hn q hq
      simp
      omega
    omega
  have st : ∀ most, n + 3 ≤ most → most ≤ 2 * n + 2 → ∀ s : Nat, 1 ≤ s → s + 1 < most + n → (stepsN (uans n ps most) s : Int) = sjF n ps s := fun most l1 l2 s s1 s2 => by
    obtain ⟨new, e, hn⟩ := cutm most l2
    have := a2 (s - 1) (by omega)
    rw [show ((s - 1 : Nat) : Int) + 1 = s by omega] at this
    rw [← this, e]
    unfold stepsN
    rw [List.countP_append]
    have : (new.countP fun q => decide (q.2.2 = (s : Int))) = 0 := by
      rw [List.countP_eq_zero]
      intro q hq
      have b1 := hn q hq
      have b2 := (a3 q (by rw [e]; exact List.mem_append_left _ hq)).2.2
      simp
      omega
    omega
  refine ⟨fr, st, fun most l1 l2 => ?_, fun m hm => of_decide_eq_true (List.all_eq_true.mp h4 m (List.mem_range.mpr (by omega))), ?_⟩
  · have hin : ∀ q ∈ uans n ps most, 1 ≤ q.2.2 ∧ q.2.2 ≤ (q.1 : Int) + n - 1 := fun q hq => by
      obtain ⟨new, e, hn⟩ := cutm most l2
      have := a3 q (by rw [e]; exact List.mem_append_right _ hq)
      exact ⟨this.1, this.2.1⟩
    have e1 : sumI (fun s => sjF n ps ((s : Int) + 1)) (most + n - 2) = (uans n ps most).length := by
      rw [← sum_count (f := fun q : Nat × Pr2 => (q.2.2 - 1).toNat) (K := most + n - 2) (l := uans n ps most) fun q hq => by
        have b1 := hin q hq
        have b2 := uans_own most q hq
        omega]
      refine sumI_congr fun k hk => ?_
      have := st most l1 l2 (k + 1) (by omega) (by omega)
      rw [show ((k + 1 : Nat) : Int) = (k : Int) + 1 by omega] at this
      rw [← this]
      congr 1
      unfold stepsN
      apply List.countP_congr
      intro q hq
      have b1 := hin q hq
      simp only [decide_eq_true_eq]
      omega
    have e2 : fjF n ps most = (uans n ps most).length := by
      rw [← ap_sum ct, ← sum_count (f := fun q : Nat × Pr2 => q.1) (K := most) (l := uans n ps most) (uans_own most)]
      exact sumI_congr fun k hk => (fr most l1 l2 k hk).symm
    rw [e1, e2]
  · rcases h5 with h5 | h5
    · exact .inl (of_decide_eq_true h5)
    · obtain ⟨m, hm, e⟩ := List.any_eq_true.mp h5
      exact .inr ⟨m, List.mem_range.mp hm, of_decide_eq_true e⟩
end K30.P

set_option maxHeartbeats 4000000
/-! k30: the law's drawing and its answers. -/
namespace K30.P
open PySem Uq
theorem law_drawn {n c : Nat} {k x : Int} {xs : List Int} {Q : QD} {E : Ex} (h2 : 2 ≤ c) (h60 : c ≤ 60) (hx : xs.length = c) (h : ∀ ps, Cut c ps → Q (.tuple (ps.map prD))) : W (n + 2) f__law_drawn [.int c, .int k, .int x, .list (xs.map PyData.int)] Q E := by
  refine wC_of (fn := fn__law_drawn) rfl rfl ?_
  have hc0 : ¬ c = 0 := by omega
  by_cases k0 : k = 0
  · simp [fn__law_drawn, k0]
    rw [show (c : Int) - 1 = ((c - 1 : Nat) : Int) by omega]
    exact law_fan h60 (by omega) (h _ (fan_cut h2 h60 (by omega)))
  · by_cases k1 : k = 1
    · simp [fn__law_drawn, k0, k1, hc0]
      have m := fmod_in (a := x) (b := (c : Int)) (by omega)
      obtain ⟨j, ej⟩ := Int.eq_ofNat_of_zero_le m.1
      rw [ej] at m ⊢
      exact law_fan h60 (by omega) (h _ (fan_cut h2 h60 (by omega)))
    · simp [fn__law_drawn, k0, k1]
      exact law_split h2 h60 hx h
theorem law_answers {n c most : Nat} {ps : List Pr2} {Q : QD} {E : Ex} (ct : Cut c ps) (hc : c ≤ 8) (g : Good c ps) (l1 : c + 3 ≤ most) (l2 : most ≤ 2 * c + 2) (h : Q (.bool true)) : W (n + 12) f__law_answers [.int c, .tuple (ps.map prD), .int most] Q E := by
  refine wC_of (fn := fn__law_answers) rfl rfl ?_
  have h2 := ct.n2
  simp [fn__law_answers, noLs_prs]
  refine law_unrolled (most := most) ct (by omega) ?_
  simp [shr_f, nms, nmsL]
  refine ⟨by omega, ?_⟩
  have f0 : fjF c ps 0 = 0 := by unfold fjF; rw [if_pos (.inl rfl)]
  rw [show upto 0 most = upto (0 + ((0 : Nat) : Int)) most from rfl]
  refine frW_upto (lo := 0) (m := most) (I := fun m ρ => ∃ s7, ρ = [.va (.int c), .va (.tuple (ps.map prD)), .va (.int most), .va (cutD c ps), .va (.list (frD (uans c ps most) most)), .va (.list (stD (uans c ps most) (most + c))), .va (.int (fjF c ps m)), s7, .no, .no, .no]) ?_ ?_ most 0 _ (by omega) ⟨.no, by rw [show ((0 : Nat) : Int) = 0 from rfl, f0]⟩
  · rintro ρ ⟨s7, rfl⟩
    simp
    refine first_joins ct (by omega) ?_
    refine same_int rfl ?_
    simp
    refine ⟨⟨by omega, by omega⟩, ?_⟩
    rw [show ((most : Int) + c).toNat - 1 - 1 = most + c - 2 by omega, show upto 1 (most + c - 2) = upto (1 + ((0 : Nat) : Int)) (most + c - 2) from rfl]
    refine frW_upto (lo := 1) (m := most + c - 2) (I := fun t ρ => ∃ s9 s10, ρ = [.va (.int c), .va (.tuple (ps.map prD)), .va (.int most), .va (cutD c ps), .no, .va (.list (stD (uans c ps most) (most + c))), .va (.int (fjF c ps most)), .no, .va (.int (sumI (fun s => sjF c ps ((s : Int) + 1)) t)), s9, s10]) ?_ ?_ (most + c - 2) 0 _ (by omega) ⟨.no, .no, rfl⟩
    · rintro ρ ⟨s9, s10, rfl⟩
      simp
      rw [g.tot most l1 l2]
      simpa using h
    · rintro t ρ R ht ⟨s9, s10, rfl⟩ hR
      have e1 : (1 : Int) + (t : Int) = ((t + 1 : Nat) : Int) := by omega
      rw [e1]
      have st := g.st most l1 l2 (t + 1) (by omega) (by omega)
      have ea : L2.atI (stD (uans c ps most) (most + c)) ((t + 1 : Nat) : Int) = some (.int (sjF c ps ((t + 1 : Nat) : Int))) := by
        rw [← st]
        exact range_at (f := fun s => (stepsN (uans c ps most) s : Int)) (by omega)
      generalize hz : ((t + 1 : Nat) : Int) = z at *
      simp
      refine step_joins ct (by omega) ?_
      simp [ea]
      refine same_int rfl ?_
      simp
      refine hR _ ⟨.no, .no, ?_⟩
      rw [← hz]
      rfl
  · rintro m ρ R hm ⟨s7, rfl⟩ hR
    have fr := g.fr most l1 l2 m hm
    have ea : L2.atI (frD (uans c ps most) most) (m : Int) = some (.int (apF c ps m)) := by
      rw [← fr]
      exact range_at hm
    simp
    refine first_joins ct (by omega) ?_
    refine same_int rfl ?_
    simp [ea]
    refine answer_price ct (by omega) ?_
    refine same_int rfl ?_
    simp
    refine hR _ ⟨.no, ?_⟩
    have := ap_fj ct (m := (m : Int)) (by omega)
    rw [show ((m + 1 : Nat) : Int) = (m : Int) + 1 by omega, show fjF c ps ((m : Int) + 1) = fjF c ps m + apF c ps m by omega]
end K30.P

set_option maxHeartbeats 4000000
/-! k30: every cutting, listed by the law. -/
namespace K30.P
open PySem Uq
def allStep (prev : List (List (List Pr2))) (n : Nat) : List (List Pr2) := (List.range (n - 2)).flatMap fun k => (prev.getD (k + 2) []).flatMap fun l => (prev.getD (n - (k + 1)) []).map fun r =>
  line (l ++ (if 0 < k then [((0 : Int), (k : Int) + 1)] else []) ++ (if k + 3 < n then [((k : Int) + 1, (n : Int) - 1)] else []) ++ r.map fun p => (p.1 + k + 1, p.2 + k + 1))
def allT : Nat → List (List (List Pr2))
  | 0 => [[], [], [[]]]
  | t + 1 => allT t ++ [allStep (allT t) (t + 3)]
def allN (n : Nat) : List (List Pr2) := (allT (n - 2)).getD n []
def eqP : D → Pr2 → Bool
  | .tuple [.int a, .int b], p => decide (a = p.1) && decide (b = p.2)
  | _, _ => false
def eqL : List D → List Pr2 → Bool
  | [], [] => true
  | d :: ds, p :: ps => eqP d p && eqL ds ps
  | _, _ => false
def eqLL : List D → List (List Pr2) → Bool
  | [], [] => true
  | .list ds :: es, l :: ls => eqL ds l && eqLL es ls
  | _, _ => false
theorem eqP_ok {d : D} {p : Pr2} (h : eqP d p = true) : d = prD p := by
  unfold eqP at h
  split at h
  · rw [Bool.and_eq_true, decide_eq_true_eq, decide_eq_true_eq] at h
    rw [h.1, h.2]
    rfl
  · cases h
theorem eqL_ok : ∀ {ds : List D} {ps : List Pr2}, eqL ds ps = true → ds = ps.map prD
  | [], [], _ => rfl
  | d :: ds, p :: ps, h => by
    unfold eqL at h
    rw [Bool.and_eq_true] at h
    rw [eqP_ok h.1, eqL_ok h.2]
    rfl
  | [], _ :: _, h => nomatch h
  | _ :: _, [], h => nomatch h
theorem eqLL_ok : ∀ {ds : List D} {ps : List (List Pr2)}, eqLL ds ps = true → ds = ps.map fun l => .list (l.map prD)
  | [], [], _ => rfl
  | d :: ds, p :: ps, h => by
    unfold eqLL at h
    split at h
    · rename_i h1 h2; cases h1
    · rename_i h1 h2
      cases h1
      cases h2
      rw [Bool.and_eq_true] at h
      rw [eqL_ok h.1, eqLL_ok h.2]
      rfl
    · cases h
  | [], _ :: _, h => by simp [eqLL] at h
  | _ :: _, [], h => by simp [eqLL] at h
def okL (x : Mz D) (l : List (List Pr2)) : Bool := match x with
  | some (.ok (.list ds)) => eqLL ds l
  | _ => false
theorem all_run : ((List.range 7).all fun k => okL (xC T sub flds 29 f__law_all [.int ((k : Int) + 2)]) (allN (k + 2))) = true := by decide +kernel
theorem law_all {n : Nat} {Q : QD} {E : Ex} (h2 : 2 ≤ n) (h8 : n ≤ 8) (h : Q (.list ((allN n).map fun l => .list (l.map prD)))) : W 29 f__law_all [.int n] Q E := by
  have r := List.all_eq_true.mp all_run (n - 2) (by rw [List.mem_range]; omega)
  rw [show ((n - 2 : Nat) : Int) + 2 = n by omega, show n - 2 + 2 = n by omega] at r
  unfold okL at r
  split at r
  · rename_i ds e
    rw [eqLL_ok r] at e
    exact run_ok e h
  · cases r
def chkN (n : Nat) : Bool := decide (fanL n (n - 1) ∈ allN n) && (decide ((allN n).length ≤ 1000) && (allN n).all fun ps => (ps.all fun p => decide (0 ≤ p.1 ∧ p.1 < p.2 ∧ p.2 < (n : Int))) && ((List.range (2 * n + 4)).all fun m => decide (fjF n (fanL n (n - 1)) m ≤ fjF n ps m)))
theorem all_chk : ((List.range 7).all fun k => chkN (k + 2)) = true := by decide +kernel
end K30.P

set_option maxHeartbeats 4000000
/-! k30: the least, against every cutting. -/
namespace K30.P
open PySem Uq
theorem good {c : Nat} {ps : List Pr2} (ct : Cut c ps) (hc : c ≤ 8) : Good c ps := by
  have h2 := ct.n2
  refine good_of ct ?_
  exact chk_all h2 hc (mem_gen ct hc) (gen_len h2 hc)
def endF (c : Nat) (d : D) : D := match d with
  | .list l => .list ((rowL c (l.map prOf)).map PyData.int)
  | d => d
theorem prOf_all : ∀ l : List Pr2, (l.map prD).map prOf = l
  | [] => rfl
  | p :: l => by
    rw [List.map_cons, List.map_cons, prOf_all l]
    rfl
theorem endF_l {c : Nat} {l : List Pr2} : endF c (.list (l.map prD)) = .list ((rowL c l).map PyData.int) := by
  show PyData.list ((rowL c ((l.map prD).map prOf)).map PyData.int) = _
  rw [prOf_all]
structure AllOk (c : Nat) : Prop where
  fan : fanL c (c - 1) ∈ allN c
  len : (allN c).length ≤ 1000
  inb : ∀ ps ∈ allN c, ∀ p ∈ ps, 0 ≤ p.1 ∧ p.1 < p.2 ∧ p.2 < c
  le : ∀ ps ∈ allN c, ∀ m : Nat, m < 2 * c + 4 → fjF c (fanL c (c - 1)) m ≤ fjF c ps m
theorem all_ok {c : Nat} (h2 : 2 ≤ c) (h8 : c ≤ 8) : AllOk c := by
  have h := List.all_eq_true.mp all_chk (c - 2) (by rw [List.mem_range]; omega)
  rw [show c - 2 + 2 = c by omega] at h
  unfold chkN at h
  simp only [Bool.and_eq_true] at h
  obtain ⟨a, b, d⟩ := h
  have d' := fun ps hp => by
    have := List.all_eq_true.mp d ps hp
    rw [Bool.and_eq_true] at this
    exact this
  exact ⟨of_decide_eq_true a, of_decide_eq_true b, fun ps hp p hm => of_decide_eq_true (List.all_eq_true.mp (d' ps hp).1 p hm), fun ps hp m hm => of_decide_eq_true (List.all_eq_true.mp (d' ps hp).2 m (List.mem_range.mpr hm))⟩
/-- the same for a list that need not be a cutting's -/
theorem fj_step {c : Nat} {ps : List Pr2} {m : Int} (h2 : 2 < c) (hm : 1 ≤ m) : fjF c ps (m + 1) = fjF c ps m + 1 + endsN ps ((m - 1) % c) := by
  have e := rounds_succ (c := c) (xs := rowL c ps) (m := m - 1) (by omega) rowL_len (by omega)
  have r0 := Int.emod_nonneg (m - 1) (show (c : Int) ≠ 0 by omega)
  have r1 := Int.emod_lt_of_pos (m - 1) (show (0 : Int) < c by omega)
  rw [rowL_getD r0 r1] at e
  unfold fjF
  rw [if_neg (by omega), if_neg (by omega), show m + 1 - 1 = m - 1 + 1 by omega]
  have e' : fcF c ps (m - 1 + 1) = fcF c ps (m - 1) + endsN ps ((m - 1) % c) := e
  rw [e']
  omega
theorem fj_1 {c : Nat} {ps : List Pr2} (h2 : 2 ≤ c) : fjF c ps 1 = (c : Int) - 2 := by
  have e : fcF c ps 0 = 0 := rounds_0
  unfold fjF
  by_cases c2 : c = 2
  · rw [if_pos (.inr c2)]; omega
  · rw [if_neg (by omega), show (1 : Int) - 1 = 0 from rfl, e]
    omega
theorem fj_0 {c : Nat} {ps : List Pr2} : fjF c ps 0 = 0 := by unfold fjF; rw [if_pos (.inl rfl)]
theorem fj_2 {ps : List Pr2} {m : Int} : fjF 2 ps m = 0 := by unfold fjF; rw [if_pos (.inr rfl)]
theorem tables_at {c k : Nat} {L : List (List Pr2)} (h : k < L.length) : L2.atI (L.map fun l => PyData.list ((rowL c l).map PyData.int)) (k : Int) = some (.list ((rowL c (L[k]?.getD [])).map PyData.int)) := atI_nat (by simp [h])
theorem rowL_at {c : Nat} {ps : List Pr2} {j : Int} (h0 : 0 ≤ j) (h1 : j < c) : L2.atI ((rowL c ps).map PyData.int) j = some (.int (endsN ps j)) := by
  obtain ⟨k, rfl⟩ := Int.eq_ofNat_of_zero_le h0
  exact atI_nat (by simp [rowL, show k < c by omega])
def wideD (c : Nat) (L : List (List Pr2)) (m : Int) : List D := (L.map fun l => fjF c l m).map PyData.int
theorem wide_at {c k : Nat} {L : List (List Pr2)} {m : Int} (h : k < L.length) : L2.atI (wideD c L m) (k : Int) = some (.int (fjF c (L[k]?.getD []) m)) := atI_nat (by simp [wideD, h])
theorem min_wide {c : Nat} {m : Nat} {Q : QD} (h2 : 2 ≤ c) (h8 : c ≤ 8) (hm : m < 2 * c + 4) (h : Q (.int (fjF c (fanL c (c - 1)) m))) : biR .min [.list (wideD c (allN c) m)] Q := by
  have a := all_ok h2 h8
  refine ⟨(allN c).map fun l => fjF c l m, ints_back _, ?_, fun x hx hy => ?_⟩
  · rw [List.length_map]
    exact List.length_pos_of_mem a.fan
  · obtain ⟨l, hl, rfl⟩ := List.mem_map.mp hx
    have l1 := hy _ (List.mem_map.mpr ⟨_, a.fan, rfl⟩)
    have l3 := a.le l hl m hm
    rw [show fjF c l m = fjF c (fanL c (c - 1)) m by omega]
    exact h
theorem min_wide' {c : Nat} {m : Nat} {Q : QD} (h2 : 2 ≤ c) (h8 : c ≤ 8) (hm : m + 1 < 2 * c + 4) (h : Q (.int (fjF c (fanL c (c - 1)) ((m : Int) + 1)))) : biR .min [.list (wideD c (allN c) ((m : Int) + 1))] Q := min_wide (m := m + 1) h2 h8 hm h
theorem cmp_ne_b {b : Bool} {Q : QD} (h : Q (.bool false)) : cmpR .ne (.bool b) (.bool b) Q := by
  refine ⟨⟨shd_sh (k := 0) shd_bool (by decide), shd_sh (k := 0) shd_bool (by decide)⟩, ?_⟩
  have : PyData.eqv (.bool b) (.bool b) = true := by cases b <;> rfl
  rw [this]
  exact h
theorem cmp_eq_prs {a b : List Pr2} {Q : QD} (h : Q (.bool (decide (a = b)))) : cmpR .eq (.tuple (a.map prD)) (.tuple (b.map prD)) Q := by
  refine ⟨⟨sh_prs, sh_prs⟩, ?_⟩
  have : PyData.eqv (.tuple (a.map prD)) (.tuple (b.map prD)) = decide (a = b) := by
    rw [show PyData.eqv (.tuple (a.map prD)) (.tuple (b.map prD)) = PyData.eqvAll (a.map prD) (b.map prD) by simp [PyData.eqv], eqv_prs]
  rw [this]
  exact h
theorem small_nil {c : Nat} {ps : List Pr2} (ct : Cut c ps) (h : c < 4) : ps = [] := by
  cases ps with
  | nil => rfl
  | cons p ps =>
    have := ct.inb (p := p) List.mem_cons_self
    omega
/-- nothing over the least: the fan -/
theorem over_0 {c most : Nat} {ps : List Pr2} (ct : Cut c ps) (h8 : c ≤ 8) (l1 : c + 3 ≤ most) (l2 : most ≤ 2 * c + 2) : decide (sumI (fun k => fjF c ps ((k : Int) + 1) - fjF c (fanL c (c - 1)) ((k : Int) + 1)) most = 0) = decide (ps = fanL c (c - 1)) := by
  have g := good ct h8
  rw [decide_eq_decide]
  constructor
  · intro e
    rcases g.ne with h | ⟨m, hm, hl⟩
    · exact h
    · have nn := sum_nn (f := fun (k : Nat) => fjF c ps ((k : Int) + 1) - fjF c (fanL c (c - 1)) ((k : Int) + 1)) (n := most) fun k hk => by
        have := g.le (k + 1) (by omega)
        rw [show ((k + 1 : Nat) : Int) = (k : Int) + 1 by omega] at this
        omega
      cases m with
      | zero =>
        rw [show ((0 : Nat) : Int) = 0 from rfl, fj_0, fj_0] at hl
        omega
      | succ k =>
        have := nn.2 e k (by omega)
        rw [show ((k + 1 : Nat) : Int) = (k : Int) + 1 by omega] at hl
        omega
  · rintro rfl
    rw [sumI_congr (g := fun _ => 0) fun k hk => by omega]
    exact sumI_zero _
theorem law_least {n c most : Nat} {ps : List Pr2} {Q : QD} {E : Ex} (ct : Cut c ps) (h8 : c ≤ 8) (l1 : c + 3 ≤ most) (l2 : most ≤ 2 * c + 2) (h : Q (.bool true)) : W (n + 13) f__law_least [.int c, .tuple (ps.map prD), .list ((allN c).map fun l => .list (l.map prD)), .int most] Q E := by
  refine wC_of (fn := fn__law_least) rfl rfl ?_
  have h2 := ct.n2
  have ao := all_ok h2 h8
  have g := good ct h8
  have cf := fan_cut (c := c) (a := c - 1) h2 (by omega) (by omega)
  have gf := good cf h8
  have hL0 : 0 < (allN c).length := List.length_pos_of_mem ao.fan
  have hL1 := ao.len
  simp [fn__law_least, noLs_prs]
  refine lcG_map (endF c) _ _ (fun d hd R hR => ?_) (by rw [List.length_map]; exact le_size (by simp; omega)) ?_
  · obtain ⟨l, hl, rfl⟩ := List.mem_map.mp hd
    simp [frzIt, nms, nmsL, tgI]
    refine law_ends (.inr rfl) (by omega) (ao.inb l hl) ?_
    rw [← endF_l]
    exact hR
  · have e1 : ((allN c).map fun l => PyData.list (l.map prD)).map (endF c) = (allN c).map fun l => PyData.list ((rowL c l).map PyData.int) := by
      rw [List.map_map]
      apply List.map_congr_left
      intro l _
      exact endF_l
    have e2 : noLs ((allN c).map fun l => PyData.list ((rowL c l).map PyData.int)) = false := by
      cases e : allN c with
      | nil => rw [e] at hL0; simp at hL0
      | cons x xs => simp
    rw [List.nil_append, e1, asgn_lF rfl e2]
    simp [nms, nmsL, tgI]
    refine law_ends (.inl rfl) (by omega) (fun p hp => by have := ct.inb hp; omega) ?_
    simp [asgn_ff, nms, nmsL]
    rw [show (c : Int) - 1 = ((c - 1 : Nat) : Int) by omega]
    refine law_fan (by omega) (by omega) ?_
    refine law_unrolled (most := most) cf (by omega) ?_
    simp [asgn_ff, nms, nmsL]
    have upL : upto 0 (allN c).length = upto (0 + ((0 : Nat) : Int)) (allN c).length := rfl
    refine ⟨by omega, ?_⟩
    refine lcG_map (fun _ => PyData.int ((c : Int) - 2)) _ _ (fun x hx R hR => ?_) (by rw [upto_len]; exact le_size (by simp; omega)) ?_
    · rw [upto_map] at hx
      obtain ⟨k, _, rfl⟩ := List.mem_map.mp hx
      simp
      exact hR
    have ew : ∀ (f : D → D) (m : Int), (∀ k : Nat, k < (allN c).length → f (.int k) = .int (fjF c ((allN c).getD k []) m)) → ([] : List D) ++ (upto 0 (allN c).length).map f = wideD c (allN c) m := fun f m hf => by
      rw [List.nil_append, upto_map, List.map_map]
      apply List.ext_getElem
      · simp [wideD]
      · intro i hi1 hi2
        have hi : i < (allN c).length := by simpa using hi1
        have := hf i hi
        simp [wideD] at this ⊢
        rw [this]
        simp [hi]
    have nw : ∀ m, noLs (wideD c (allN c) m) = true := fun m => noLs_ints _
    rw [ew _ 1 (fun k hk => by rw [fj_1 h2]), asgn_l rfl (nw 1)]
    simp
    refine ⟨by omega, ?_⟩
    rw [show upto 0 most = upto (0 + ((0 : Nat) : Int)) most from rfl]
    refine frW_upto (lo := 0) (m := most) (I := fun m ρ => ∃ s10, ρ = [.va (.int c), .va (.tuple (ps.map prD)), .va (.list ((allN c).map fun l => .list (l.map prD))), .va (.int most), .va (cutD c ps), .ol ((allN c).map fun l => PyData.list ((rowL c l).map PyData.int)), .no, .va (.list ((rowL c ps).map PyData.int)), .va (.list (frD (uans c (fanL c (c - 1)) most) most)), .ol (wideD c (allN c) (if m = 0 then 1 else m)), s10, .va (.int (fjF c (fanL c (c - 1)) m)), .va (.int (sumI (fun k => fjF c ps ((k : Int) + 1) - fjF c (fanL c (c - 1)) ((k : Int) + 1)) m)), .va (.int (fjF c ps m)), .no]) ?_ ?_ most 0 _ (by omega) ⟨.no, by simp [fj_0, sumI]⟩
    · rintro ρ ⟨s10, rfl⟩
      simp
      have et := over_0 ct h8 l1 l2
      have fin : wC T sub flds (n + 12) f_is_least_always [cutD c ps] (fun v => wC T sub flds (n + 12) f__law_same [v, PyData.bool (decide (ps = fanL c (c - 1)))] Q fun c fs => E c fs) fun c fs => E c fs := by
        refine is_least ct ?_
        rw [fan_same h2]
        exact same_bool rfl h
      by_cases c4 : (c : Int) < 4
      · have hp := small_nil ct (by omega)
        have hf := small_nil cf (by omega)
        have e : decide (ps = fanL c (c - 1)) = true := decide_eq_true (by rw [hp, hf])
        rw [if_pos c4, et, e, decide_eq_true c4]
        refine cmp_ne_b ?_
        simp
        rw [e] at fin
        exact fin
      · rw [if_neg c4, show (c : Int) - 1 = ((c - 1 : Nat) : Int) by omega]
        refine law_fan (by omega) (by omega) ?_
        refine cmp_eq_prs ?_
        rw [et]
        refine cmp_ne_b ?_
        simp
        exact fin
    · rintro m ρ R hm ⟨s10, rfl⟩ hR
      have elf := lf_fan (c := c) (m := (m : Int)) h2 (by omega) (by omega)
      have xs := rowL_sum ct
      simp
      refine least_first (by omega) (by omega) (by omega) ?_
      refine same_int elf ?_
      simp
      refine over_least ct (by omega) ?_
      refine same_int (by rw [elf]) ?_
      simp
      refine first_chords ct (by omega) ?_
      refine law_rounds (by omega) (by omega) rowL_len ⟨by omega, by omega⟩ ?_
      refine same_int rfl ?_
      simp
      have ea : L2.atI (frD (uans c (fanL c (c - 1)) most) most) (m : Int) = some (.int (apF c (fanL c (c - 1)) m)) := by
        rw [← gf.fr most l1 l2 m hm]
        exact range_at hm
      have eap : fjF c (fanL c (c - 1)) m + apF c (fanL c (c - 1)) m = fjF c (fanL c (c - 1)) ((m : Int) + 1) := by
        rw [ap_fj cf (by omega)]
        omega
      rw [ea]
      simp
      rw [eap]
      have es : sumI (fun k => fjF c ps ((k : Int) + 1) - fjF c (fanL c (c - 1)) ((k : Int) + 1)) (m + 1) = sumI (fun k => fjF c ps ((k : Int) + 1) - fjF c (fanL c (c - 1)) ((k : Int) + 1)) m + costF c (rowL c ps) ((m : Int) + 1) - fjF c (fanL c (c - 1)) ((m : Int) + 1) := by
        show sumI _ m + (fjF c ps ((m : Int) + 1) - fjF c (fanL c (c - 1)) ((m : Int) + 1)) = _
        rw [fj_cost (ps := ps)]
        omega
      have hR' := hR _ ⟨s10, rfl⟩
      rw [es, if_neg (by omega), show ((m + 1 : Nat) : Int) = (m : Int) + 1 by omega, fj_cost (ps := ps)] at hR'
      clear es
      clear hR
      by_cases hup : 0 < m ∧ 2 < c
      · have c2 : (2 : Int) < c := by omega
        have m0 : ¬ m = 0 := by omega
        have hc0 : ¬ c = 0 := by omega
        simp [hup.1, c2, m0]
        refine ⟨by omega, ?_⟩
        refine lcG_map (fun d => match d with
          | .int k => .int (fjF c ((allN c).getD k.toNat []) ((m : Int) + 1))
          | d => d) _ _ (fun x hx R2 hR2 => ?_) (by rw [upto_len]; exact le_size (by simp; omega)) ?_
        · rw [upto_map] at hx
          obtain ⟨k, hk, rfl⟩ := List.mem_map.mp hx
          have hk' : k < (allN c).length := List.mem_range.mp hk
          have r0 := Int.emod_nonneg ((m : Int) - 1) (show (c : Int) ≠ 0 by omega)
          have r1 := Int.emod_lt_of_pos ((m : Int) - 1) (show (0 : Int) < c by omega)
          have b1 := wide_at (c := c) (L := allN c) (m := (m : Int)) hk'
          have b2 := tables_at (c := c) (L := allN c) hk'
          have b3 := rowL_at (c := c) (ps := (allN c)[k]?.getD []) r0 r1
          have b4 := fj_step (c := c) (ps := (allN c)[k]?.getD []) (m := (m : Int)) hup.2 (by omega)
          simp [tgI, hc0, em, b1, b2, b3]
          simp [b4] at hR2
          exact hR2
        · rw [ew _ ((m : Int) + 1) (fun k hk => by simp), asgn_l rfl (nw _)]
          simp
          refine min_wide' h2 h8 (by omega) ?_
          simp
          refine law_cost (by omega) (by omega) rowL_len ⟨by omega, by omega⟩ ?_
          simp
          exact hR'
      · have hw : wideD c (allN c) (if m = 0 then 1 else (m : Int)) = wideD c (allN c) ((m : Int) + 1) := by
          by_cases m0 : m = 0
          · subst m0
            rfl
          · have c2 : c = 2 := by omega
            rw [if_neg m0, c2]
            unfold wideD
            congr 1
            apply List.map_congr_left
            intro l _
            rw [fj_2, fj_2]
        rw [hw]
        by_cases m0 : 0 < m
        · have c2 : ¬ (2 : Int) < c := by omega
          simp [m0, c2]
          refine min_wide' h2 h8 (by omega) ?_
          simp
          refine law_cost (by omega) (by omega) rowL_len ⟨by omega, by omega⟩ ?_
          simp
          exact hR'
        · simp [m0]
          refine min_wide' h2 h8 (by omega) ?_
          simp
          refine law_cost (by omega) (by omega) rowL_len ⟨by omega, by omega⟩ ?_
          simp
          exact hR'
end K30.P

set_option maxHeartbeats 4000000
/-! k30: great numbers. -/
namespace K30.P
open PySem Uq
theorem law_wish {n : Nat} {ns : List Int} {b p : Int} {Q : QD} {E : Ex} (hl : ns.length ≤ 63) (hb : 0 ≤ b) (hb2 : b < 2147483543) (hp : 0 ≤ p) (hp2 : p ≤ 100) (h : ∀ w : Int, 0 ≤ w → w < 10 ^ 30 → Q (.int w)) : W (n + 2) f__law_wish [lk ns, .int b, .int p] Q E := by
  refine wC_of (fn := fn__law_wish) rfl rfl ?_
  simp [fn__law_wish]
  refine law_rows (s := 5) hl hb hb2 hp hp2 (by decide) (by decide) (by decide) fun xs hx hB => ?_
  simp
  obtain ⟨x0, x1, x2, x3, x4, rfl⟩ : ∃ x0 x1 x2 x3 x4, xs = [x0, x1, x2, x3, x4] := by
    match xs, hx with
    | [x0, x1, x2, x3, x4], _ => exact ⟨_, _, _, _, _, rfl⟩
  have b0 := hB x0 (by simp)
  have b1 := hB x1 (by simp)
  have b2 := hB x2 (by simp)
  have b3 := hB x3 (by simp)
  have b4 := hB x4 (by simp)
  have ml : ∀ i : Int, MulOk i 1000000 := fun i => mul_r (by decide) (by decide)
  simp [frW_cons, frW_nil, ml, frzIt, nms, nmsL]
  exact h _ (by omega) (by omega)
def fstF (d : D) : D := match d with
  | .tuple [a, _] => a
  | d => d
def sndP (s : Int) (d : D) : Bool := match d with
  | .tuple [_, .int y] => decide (y = s)
  | _ => false
theorem snd_filt {s : Int} : ∀ {ps : List Pr2}, ((ps.map prD).filter (sndP s)).length = ps.countP fun p => decide (p.2 = s)
  | [] => rfl
  | p :: ps => by
    rw [List.map_cons, List.countP_cons, List.filter_cons]
    have e : sndP s (prD p) = decide (p.2 = s) := rfl
    rw [e]
    split
    · rw [List.length_cons, snd_filt]
    · rw [snd_filt]
      rfl
theorem law_great {n c : Nat} {ps : List Pr2} {ws : List Int} {w0 : Int} {Q : QD} {E : Ex} (ct : Cut c ps) (hw : ∀ w ∈ w0 :: ws, 0 ≤ w) (h : Q (.bool true)) : W (n + 13) f__law_great [.int c, .tuple (ps.map prD), .list ((w0 :: ws).map PyData.int)] Q E := by
  refine wC_of (fn := fn__law_great) rfl rfl ?_
  have h2 := ct.n2
  have h60 := ct.n60
  have hl := ct.len
  have cf := fan_cut (c := c) (a := c - 1) h2 h60 (by omega)
  have xs := rowL_sum ct
  have xf := rowL_sum cf
  have hc0 : ¬ c = 0 := by omega
  generalize hW : (w0 :: ws).map PyData.int = WL
  have hat : L2.atI WL 0 = some (.int w0) := by rw [← hW]; simp
  simp [fn__law_great, noLs_prs]
  refine law_ends (.inl rfl) (by omega) (fun p hp => by have := ct.inb hp; omega) ?_
  simp [asgn_ff, nms, nmsL]
  rw [show (c : Int) - 1 = ((c - 1 : Nat) : Int) by omega]
  refine law_fan (by omega) (by omega) ?_
  refine law_ends (.inl rfl) (by omega) (fun p hp => by have := cf.inb hp; omega) ?_
  simp [asgn_ff, nms, nmsL]
  refine frW_ind (I := fun es ρ => ∃ us s6, (∀ u ∈ us, 0 ≤ u) ∧ es = us.map PyData.int ∧ ρ = [.va (.int c), .va (.tuple (ps.map prD)), .va (.list WL), .va (cutD c ps), .va (.list ((rowL c ps).map PyData.int)), .va (.list ((rowL c (fanL c (c - 1))).map PyData.int)), s6, .no, .no, .no, .no, .no, .no]) ?_ ?_ _ _ ⟨w0 :: ws, .no, hw, hW.symm, by simp [frzIt, nms, nmsL]⟩
  · rintro ρ ⟨us, s6, hu, e, rfl⟩
    have a1 := fmod_in (a := w0) (b := 120) (by decide)
    have a2 := fmod_in (a := w0.fdiv 120) (b := (c : Int)) (by omega)
    have lg : Nat.log2 120 < 9000 := log_n (by decide) (by decide)
    simp [hat, hc0, lg]
    refine frW_ind (I := fun es ρ => ∃ us s9, (∀ u ∈ us, (1 : Int) ≤ u) ∧ es = us.map PyData.int ∧ ρ = [.va (.int c), .va (.tuple (ps.map prD)), .va (.list WL), .va (cutD c ps), .va (.list ((rowL c ps).map PyData.int)), .no, .no, .no, .no, s9, .no, .no, .no]) ?_ ?_ _ _ ⟨[1 + w0.fmod 120, 1 + (w0.fdiv 120).fmod c, (c : Int) - 1, 120], .no, fun u hu => ?_, by simp, by simp [frzIt, nms, nmsL]⟩
    · rintro ρ ⟨us, s9, hu, e, rfl⟩
      simp
      refine is_least ct ?_
      rw [fan_same h2]
      by_cases c4 : (c : Int) < 4
      · have hp := small_nil ct (by omega)
        have hf := small_nil cf (by omega)
        have e : decide (ps = fanL c (c - 1)) = true := decide_eq_true (by rw [hp, hf])
        rw [if_pos c4, e, decide_eq_true c4]
        exact same_bool rfl h
      · rw [if_neg c4, show (c : Int) - 1 = ((c - 1 : Nat) : Int) by omega]
        refine law_fan (by omega) (by omega) ?_
        refine cmp_eq_prs ?_
        exact same_bool rfl h
    · rintro d ds ρ R ⟨us, s9, hu, e, rfl⟩ hR
      cases us with
      | nil => cases e
      | cons s us =>
        cases e
        have hs := hu s (by simp)
        have hR' := hR _ ⟨us, .no, fun u hm => hu u (by simp [hm]), rfl, rfl⟩
        clear hR
        have r0 := Int.emod_nonneg s (show (c : Int) ≠ 0 by omega)
        have r1 := Int.emod_lt_of_pos s (show (0 : Int) < c by omega)
        have at4 := rowL_at (c := c) (ps := ps) r0 r1
        have sj := sj_eq ct hs
        have lcg : ∀ (x10 : D) (Q2 : QD), Q2 (.list (((ps.map prD).filter (sndP s)).map fstF)) → lcG ⟨wC T sub flds (n + 12), sub, flds⟩ (.var 11) (.tp [11, 12]) [.cmp .eq (.var 12) (.var 9)] [.va (.int c), .va (.tuple (ps.map prD)), .va (.list WL), .va (cutD c ps), .va (.list ((rowL c ps).map PyData.int)), .no, .no, .no, .no, .va (.int s), .va x10, .no, .no] (ps.map prD) [] Q2 := fun x10 Q2 hq => by
          refine lcG_filt fstF (sndP s) _ _ (fun d hd R N h1 h2 => ?_) (by simp; exact le_size (by omega)) (by simpa using hq)
          obtain ⟨p, _, rfl⟩ := List.mem_map.mp hd
          have e : sndP s (prD p) = decide (p.2 = s) := rfl
          rw [e] at h1 h2
          by_cases hx : p.2 = s
          · have := h1 (decide_eq_true hx)
            simp [prD, pr, hx]
            exact this
          · have := h2 (decide_eq_false hx)
            simp [prD, pr, hx]
            exact this
        have sub1 : ∀ x10 : D, (s < (c : Int) - 1 → True) := fun _ _ => trivial
        by_cases c2 : 2 < c
        · have c2' : (2 : Int) < c := by omega
          by_cases sl : s < (c : Int) - 1
          · rw [if_pos sl] at sj
            simp [c2', em, hc0, at4, sl, frzIt, nms, nmsL, tgI]
            refine lcg _ _ ?_
            simp
            refine step_joins ct hs ?_
            refine same_int (by rw [sj, snd_filt]) ?_
            simp
            exact hR'
          · rw [if_neg sl, if_pos c2] at sj
            simp [c2', em, hc0, at4, sl]
            refine step_joins ct hs ?_
            refine same_int sj ?_
            simp
            exact hR'
        · have c2' : ¬ (2 : Int) < c := by omega
          have sl : ¬ s < (c : Int) - 1 := by omega
          rw [if_neg sl, if_neg c2] at sj
          simp [c2', sl]
          refine step_joins ct hs ?_
          refine same_int sj ?_
          simp
          exact hR'
    · simp only [List.mem_cons, List.not_mem_nil, or_false] at hu
      rcases hu with rfl | rfl | rfl | rfl <;> omega
  · rintro d ds ρ R ⟨us, s6, hu, e, rfl⟩ hR
    cases us with
    | nil => cases e
    | cons w us =>
      cases e
      have hw0 := hu w (by simp)
      have hR' := hR _ ⟨us, .no, fun u hm => hu u (by simp [hm]), rfl, rfl⟩
      clear hR
      have elf := lf_fan (c := c) h2 h60 hw0
      simp
      refine law_cost (by omega) (by omega) rowL_len ⟨by omega, by omega⟩ ?_
      simp
      refine law_cost (by omega) (by omega) rowL_len ⟨by omega, by omega⟩ ?_
      simp
      refine first_chords ct hw0 ?_
      refine law_rounds (by omega) (by omega) rowL_len ⟨by omega, by omega⟩ ?_
      refine same_int rfl ?_
      simp
      refine first_joins ct hw0 ?_
      refine same_int rfl ?_
      simp
      refine answer_price ct hw0 ?_
      refine law_cost (by omega) (by omega) rowL_len ⟨by omega, by omega⟩ ?_
      simp
      refine same_int (ap_fj ct hw0) ?_
      simp
      refine over_least ct hw0 ?_
      refine same_int (by rw [elf]; rfl) ?_
      simp
      by_cases c42 : (c : Int) < 42
      · simp [c42]
        refine least_first (by omega) (by omega) hw0 ?_
        refine same_int elf ?_
        simp
        exact hR'
      · simp [c42]
        exact hR'
end K30.P

set_option maxHeartbeats 4000000
/-! k30: what is refused. -/
namespace K30.P
open PySem Uq
def okT (x : Mz D) : Bool := match x with
  | some (.ok (.bool b)) => b
  | _ => false
theorem typed_run : okT (xC T sub flds 29 f__law_typed []) = true := by decide +kernel
theorem law_typed {Q : QD} {E : Ex} (h : Q (.bool true)) : W 29 f__law_typed [] Q E := by
  have r := typed_run
  unfold okT at r
  split at r
  · rename_i b e
    rw [r] at e
    exact run_ok e h
  · cases r
def refD (w : Str) : D := .tuple [.str "refused", .str w, .int (-1)]
def okR (x : Mz D) (w : Str) : Bool := match x with
  | some (.ok (.tuple [.str a, .str b, .int i])) => decide (a = "refused") && (decide (b = w) && (decide (i = -1) && decide (sh (refD w))))
  | _ => false
def okA (x : Mz D) : Bool := match x with
  | some (.ok (.tuple (.str a :: _))) => decide (a = "told")
  | _ => false
theorem ask_ref {k v x : D} {w : Str} {Q : QD} {E : Ex} (h : okR (xC T sub flds 28 f__law_ask [k, v, x]) w = true) (q : sh (refD w) → Q (refD w)) : wC T sub flds 28 f__law_ask [k, v, x] Q E := by
  unfold okR at h
  split at h
  · rename_i a b i e
    simp only [Bool.and_eq_true, decide_eq_true_eq] at h
    obtain ⟨h1, h2, h3, h4⟩ := h
    rw [h1, h2, h3] at e
    exact run_ok e (q h4)
  · cases h
theorem ask_told {k v x : D} {Q : QD} {E : Ex} (h : okA (xC T sub flds 28 f__law_ask [k, v, x]) = true) (q : ∀ ds, Q (.tuple (.str "told" :: ds))) : wC T sub flds 28 f__law_ask [k, v, x] Q E := by
  unfold okA at h
  split at h
  · rename_i a ds e
    rw [of_decide_eq_true h] at e
    exact run_ok e (q ds)
  · cases h
theorem ne_self {d : D} {Q : QD} (hs : sh d) (he : PyData.eqv d d = true) (h : Q (.bool false)) : cmpR .ne d d Q := by
  cases d <;> first
    | exact ⟨⟨hs, hs⟩, by rw [he]; exact h⟩
    | (simp; exact h)
theorem eq_self {d : D} {Q : QD} (hs : sh d) (he : PyData.eqv d d = true) (h : Q (.bool true)) : cmpR .eq d d Q := by
  cases d <;> first
    | exact ⟨⟨hs, hs⟩, by rw [he]; exact h⟩
    | (simp; exact h)
theorem eqv_ref {w : Str} : PyData.eqv (refD w) (refD w) = true := by
  simp [refD, PyData.eqv, PyData.eqvAll]
def vals1 : List D := [.none, .int 6, .tuple [.int 6, .tuple []], .tuple [.int 5, .tuple [pr 0 2, pr 1 3]], .list [.int 4, .tuple [pr 0 2]], .tuple [.int 4, .list [pr 0 2]], .tuple [.bool true, .tuple []]]
def kinds1 : List D := [.int 0, .int 1, .int 2, .int 3, .int 4, .int 5, .int 6, .int 7, .int 10, .int 11, .int 12, .int 13]
def goodD : D := .tuple [.int 5, .tuple [pr 1 4, pr 2 4]]
def s1D (j : Nat) : D := .int ((j : Int) - 30)
def vals2 (j : Nat) : List D := [.none, .bool true, .int 0, s1D j, .str "4", .tuple [.int 4]]
def vals3 (j : Nat) : List D := [.none, .bool false, s1D j, .str "3", .tuple [.int 3], .list [.int 0]]
def words : List Str := ["many", "many", "many", "many", "answer", "answer", "step", "step", "many", "many", "many", "many"]
def s6D (i : Nat) : D := if 7 < i ∧ i < 10 then .int 4 else goodD
theorem run1 : (vals1.all fun v => kinds1.all fun k => okR (xC T sub flds 28 f__law_ask [k, v, .none]) "cutting") = true := by decide +kernel
theorem run2 : ((List.range 30).all fun j => (vals2 j).all fun v => okR (xC T sub flds 28 f__law_ask [.int 8, v, .none]) "width" && okR (xC T sub flds 28 f__law_ask [.int 9, v, s1D j]) "width") = true := by decide +kernel
theorem run3 : ((List.range 30).all fun j => (List.range 12).all fun i => (vals3 j).all fun v => okR (xC T sub flds 28 f__law_ask [.int i, s6D i, v]) (words.getD i "")) = true := by decide +kernel
theorem run4 : ((List.range 12).all fun i => decide (words.getD i "" = "step") || okA (xC T sub flds 28 f__law_ask [.int i, s6D i, .int 0])) = true := by decide +kernel
theorem run5 : (okR (xC T sub flds 28 f__law_ask [.int 6, goodD, .int 0]) "step" && okR (xC T sub flds 28 f__law_ask [.int 7, goodD, .int 0]) "step") = true := by decide +kernel
end K30.P

set_option maxHeartbeats 4000000
/-! k30: what is refused, walked. -/
namespace K30.P
open PySem Uq
def wd (i : Nat) : Str := words.getD i ""
theorem wat {i : Nat} (h : i < 12) : L2.atI (words.map PyData.str) (i : Int) = some (.str (wd i)) := by
  refine atI_nat ?_
  have : i < words.length := h
  simp [wd, this]
@[simp] theorem noL_good : noL goodD = true := id rfl
@[simp] theorem noL_s6 {i : Nat} : noL (s6D i) = true := by unfold s6D; split <;> rfl
theorem wd_many : ∀ i : Nat, 7 < i ∧ i < 10 → wd i = "many" := fun i h => by
  have : i = 8 ∨ i = 9 := by omega
  rcases this with rfl | rfl <;> rfl
theorem law_refusals {b : Int} {Q : QD} {E : Ex} (h : Q (.bool true)) : W 29 f__law_refusals [.int b] Q E := by
  refine wC_of (n := 28) (fn := fn__law_refusals) rfl rfl ?_
  have hm := fmod_in (a := b) (b := 30) (by decide)
  obtain ⟨j, ej⟩ := Int.eq_ofNat_of_zero_le hm.1
  have hj : j < 30 := by omega
  simp [fn__law_refusals]
  rw [ej]
  refine frW_ind (I := fun es ρ => ∃ s3 s4, (∀ d ∈ es, d ∈ vals1) ∧ ρ = [.va (.int b), .va (s1D j), .va goodD, s3, s4, .no, .no]) ?_ ?_ _ _ ⟨.no, .no, fun d hd => hd, by simp [frzIt, nms, nmsL]; exact ⟨rfl, rfl⟩⟩
  · rintro ρ ⟨s3, s4, hd, rfl⟩
    simp
    refine frW_ind (I := fun es ρ => ∃ s3, (∀ d ∈ es, d ∈ vals2 j) ∧ ρ = [.va (.int b), .va (s1D j), .va goodD, s3, .no, .no, .no]) ?_ ?_ _ _ ⟨.no, fun d hd => hd, by simp [frzIt, nms, nmsL]⟩
    · rintro ρ ⟨s3, _, rfl⟩
      simp
      have r5 := run5
      rw [Bool.and_eq_true] at r5
      rw [show upto 0 12 = upto (0 + ((0 : Nat) : Int)) 12 from rfl]
      refine frW_upto (lo := 0) (m := 12) (I := fun i ρ => ∃ s3 s4 s6, ρ = [.va (.int b), .va (s1D j), .va goodD, s3, s4, .ol (words.map PyData.str), s6]) ?_ ?_ 12 0 _ (by omega) ⟨.no, .no, .no, rfl⟩
      · rintro ρ ⟨s3, s4, s6, rfl⟩
        simp
        refine ask_ref r5.1 fun hs => ?_
        refine eq_self hs eqv_ref ?_
        simp
        refine ask_ref r5.2 fun hs => ?_
        exact eq_self hs eqv_ref h
      · rintro i ρ R hi ⟨s3, s4, s6, rfl⟩ hR
        have ew := wat hi
        have tail : ∀ B : Uq.Env → Prop, wSs ⟨wC T sub flds 28, sub, flds⟩ [.kil [3], .fr (.nm 3) .val [(.lst [.non, (.bl false), (.var 1), (.str "3"), (.tup [(.int 3)]), (.lst [(.int 0)])])] [.ite (.cmp .ne (.call f__law_ask [] [(.var 4), (.var 6), (.var 3)]) (.tup [(.str "refused"), (.ixo 5 (.var 4)), (.neg (.int 1))])) [.ret (.bl false)] [], .kil [3]], .kil [3], .ite (.and (.cmp .ne (.ixo 5 (.var 4)) (.str "step")) (.cmp .ne (.ix (.call f__law_ask [] [(.var 4), (.var 6), (.int 0)]) (.int 0)) (.str "told"))) [.ret (.bl false)] [], .kil [3, 4, 6]]
            [.va (.int b), .va (s1D j), .va goodD, s3, .va (.int i), .ol (words.map PyData.str), .va (s6D i)] ⟨R, Q, B, R, fun c fs _ => E c fs⟩ := fun B => by
          simp
          refine frW_ind (I := fun es ρ => ∃ s3, (∀ d ∈ es, d ∈ vals3 j) ∧ ρ = [.va (.int b), .va (s1D j), .va goodD, s3, .va (.int i), .ol (words.map PyData.str), .va (s6D i)]) ?_ ?_ _ _ ⟨.no, fun d hd => hd, by simp [frzIt, nms, nmsL]⟩
          · rintro ρ ⟨s3, _, rfl⟩
            simp [ew]
            by_cases hw : wd i = "step"
            · simp [hw]
              exact hR _ ⟨_, _, _, rfl⟩
            · have r4 := List.all_eq_true.mp run4 i (List.mem_range.mpr hi)
              rw [Bool.or_eq_true, decide_eq_true_eq] at r4
              have r4 := r4.resolve_left hw
              simp [hw]
              refine ask_told r4 fun ds => ?_
              simp
              exact hR _ ⟨_, _, _, rfl⟩
          · rintro d ds ρ R2 ⟨s3, hd, rfl⟩ hR2
            have r3 := List.all_eq_true.mp (List.all_eq_true.mp (List.all_eq_true.mp run3 j (List.mem_range.mpr hj)) i (List.mem_range.mpr hi)) d (hd d (by simp))
            simp
            refine ask_ref (w := wd i) r3 fun hs => ?_
            simp [ew]
            refine ne_self hs eqv_ref ?_
            simp
            exact hR2 _ ⟨_, fun d hm => hd d (by simp [hm]), rfl⟩
        have e6 : s6D i = if 7 < i ∧ i < 10 then .int 4 else goodD := rfl
        by_cases h7 : 7 < i ∧ i < 10
        · have hw := wd_many i h7
          rw [if_pos h7] at e6
          simp only [e6] at tail
          have h71 : (7 : Int) < i := by omega
          have h72 : (i : Int) < 10 := by omega
          simp at tail
          simp [ew, hw, h71, h72]
          exact tail _
        · rw [if_neg h7] at e6
          simp only [e6] at tail
          simp at tail
          by_cases hw : wd i = "many"
          · by_cases h71 : (7 : Int) < i
            · have h72 : ¬ (i : Int) < 10 := by omega
              simp [ew, hw, h71, h72]
              exact tail _
            · simp [ew, hw, h71]
              exact tail _
          · simp [ew, hw]
            exact tail _
    · rintro d ds ρ R ⟨s3, hd, rfl⟩ hR
      have r2 := List.all_eq_true.mp (List.all_eq_true.mp run2 j (List.mem_range.mpr hj)) d (hd d (by simp))
      rw [Bool.and_eq_true] at r2
      simp
      refine ask_ref r2.1 fun hs => ?_
      refine ne_self hs eqv_ref ?_
      simp
      refine ask_ref r2.2 fun hs => ?_
      refine ne_self hs eqv_ref ?_
      simp
      exact hR _ ⟨_, fun d hm => hd d (by simp [hm]), rfl⟩
  · rintro d ds ρ R ⟨s3, s4, hd, rfl⟩ hR
    have hv := hd d (by simp)
    simp
    refine frW_ind (I := fun es ρ => ∃ s4, (∀ d ∈ es, d ∈ kinds1) ∧ ρ = [.va (.int b), .va (s1D j), .va goodD, .va d, s4, .no, .no]) ?_ ?_ _ _ ⟨.no, fun d hd => hd, by simp [frzIt, nms, nmsL]⟩
    · rintro ρ ⟨s4, _, rfl⟩
      simp
      exact hR _ ⟨_, _, fun d hm => hd d (by simp [hm]), rfl⟩
    · rintro k ks ρ R2 ⟨s4, hk, rfl⟩ hR2
      have hk1 := hk k (by simp)
      simp
      refine ask_ref (w := "cutting") (List.all_eq_true.mp (List.all_eq_true.mp run1 d hv) k hk1) fun hs => ?_
      refine ne_self hs eqv_ref ?_
      simp
      exact hR2 _ ⟨_, fun d hm => hk d (by simp [hm]), rfl⟩
end K30.P

set_option maxHeartbeats 4000000
/-! k30: the law. -/
namespace K30.P
open PySem Uq
def ncs : List D := [.int 2, .int 3, .int 4, .int 5, .int 6, .int 5, .int 4, .int 6, .int 7, .int 8, .int 6, .int 7]
theorem ncs_at {j : Nat} (h : j < 12) : ∃ c : Nat, L2.atI ncs (j : Int) = some (.int c) ∧ 2 ≤ c ∧ c ≤ 8 := by
  have e : ∀ c : Nat, ncs[j]? = some (.int c) → L2.atI ncs (j : Int) = some (.int c) := fun c hc => atI_nat hc
  have : j = 0 ∨ j = 1 ∨ j = 2 ∨ j = 3 ∨ j = 4 ∨ j = 5 ∨ j = 6 ∨ j = 7 ∨ j = 8 ∨ j = 9 ∨ j = 10 ∨ j = 11 := by omega
  rcases this with rfl | rfl | rfl | rfl | rfl | rfl | rfl | rfl | rfl | rfl | rfl | rfl
  · exact ⟨2, e _ rfl, by decide, by decide⟩
  · exact ⟨3, e _ rfl, by decide, by decide⟩
  · exact ⟨4, e _ rfl, by decide, by decide⟩
  · exact ⟨5, e _ rfl, by decide, by decide⟩
  · exact ⟨6, e _ rfl, by decide, by decide⟩
  · exact ⟨5, e _ rfl, by decide, by decide⟩
  · exact ⟨4, e _ rfl, by decide, by decide⟩
  · exact ⟨6, e _ rfl, by decide, by decide⟩
  · exact ⟨7, e _ rfl, by decide, by decide⟩
  · exact ⟨8, e _ rfl, by decide, by decide⟩
  · exact ⟨6, e _ rfl, by decide, by decide⟩
  · exact ⟨7, e _ rfl, by decide, by decide⟩
theorem law_true {ns : List Int} {Q : QD} {E : Ex} (hl : ns.length ≤ 63) (h : Q (.bool true)) : W 30 f_law [lk ns] Q E := by
  refine wC_of (n := 29) (fn := fn_law) rfl rfl ?_
  simp [fn_law]
  refine law_base (n := 28) hl fun b b0 b1 => ?_
  simp
  refine law_rows (n := 28) (s := 8) hl b0 b1 (by decide) (by decide) (by decide) (by decide) (by decide) fun xs hx hB => ?_
  have hB' := hB
  obtain ⟨x0, x1, x2, x3, x4, x5, x6, x7, rfl⟩ : ∃ x0 x1 x2 x3 x4 x5 x6 x7, xs = [x0, x1, x2, x3, x4, x5, x6, x7] := by
    match xs, hx with
    | [x0, x1, x2, x3, x4, x5, x6, x7], _ => exact ⟨_, _, _, _, _, _, _, _, rfl⟩
  generalize hXL : [x0, x1, x2, x3, x4, x5, x6, x7].map PyData.int = XL
  have a0 : L2.atI XL 0 = some (.int x0) := by rw [← hXL]; exact atI_nat (i := 0) rfl
  have a1 : L2.atI XL 1 = some (.int x1) := by rw [← hXL]; exact atI_nat (i := 1) rfl
  have a2 : L2.atI XL 2 = some (.int x2) := by rw [← hXL]; exact atI_nat (i := 2) rfl
  have a3 : L2.atI XL 3 = some (.int x3) := by rw [← hXL]; exact atI_nat (i := 3) rfl
  have a4 : L2.atI XL 4 = some (.int x4) := by rw [← hXL]; exact atI_nat (i := 4) rfl
  have a5 : L2.atI XL 5 = some (.int x5) := by rw [← hXL]; exact atI_nat (i := 5) rfl
  have a6 : L2.atI XL 6 = some (.int x6) := by rw [← hXL]; exact atI_nat (i := 6) rfl
  have a7 : L2.atI XL 7 = some (.int x7) := by rw [← hXL]; exact atI_nat (i := 7) rfl
  simp [asgn_ff, nms, nmsL, a0]
  have m0 := fmod_in (a := x0) (b := 12) (by decide)
  obtain ⟨j, ej⟩ := Int.eq_ofNat_of_zero_le m0.1
  obtain ⟨c, ec, c2, c8⟩ := ncs_at (j := j) (by omega)
  unfold ncs at ec
  simp only [ej, ec]
  simp [a1, a2]
  refine law_rows (n := 28) (s := c) hl b0 b1 (by decide) (by decide) (by omega) (by decide) (by decide) fun ys hy _ => ?_
  refine law_drawn (n := 27) c2 (by omega) hy fun ps ct => ?_
  simp [noLs_prs]
  refine law_all c2 c8 ?_
  simp [asgn_ff, nms, nmsL, a3]
  have hc0 : ¬ c = 0 := by omega
  have m3 := fmod_in (a := x3) (b := (c : Int)) (by omega)
  obtain ⟨q, eq⟩ := Int.eq_ofNat_of_zero_le m3.1
  simp only [eq, hc0, not_false_eq_true, true_and]
  rw [show ((c : Int) + 3 + q) = ((c + 3 + q : Nat) : Int) by omega]
  refine law_answers (n := 17) (most := c + 3 + q) ct c8 (good ct c8) (by omega) (by omega) ?_
  simp
  refine law_least (n := 16) (most := c + 3 + q) ct c8 (by omega) (by omega) ?_
  simp [a4, a5, a6]
  have m4 := fmod_in (a := x4) (b := 59) (by decide)
  obtain ⟨g, eg⟩ := Int.eq_ofNat_of_zero_le m4.1
  rw [eg, show (2 : Int) + g = ((2 + g : Nat) : Int) by omega]
  have g2 : 2 ≤ 2 + g := by omega
  have g60 : 2 + g ≤ 60 := by omega
  generalize 2 + g = c' at *
  refine law_rows (n := 28) (s := c') hl b0 b1 (by decide) (by decide) (by omega) (by decide) (by decide) fun zs hz _ => ?_
  refine law_drawn (n := 27) g2 g60 hz fun ps' ct' => ?_
  simp [noLs_prs]
  refine law_wish (n := 27) hl b0 b1 (by decide) (by decide) fun w w0 _ => ?_
  have hc0' : ¬ c' = 0 := by omega
  have w1 := fmod_in (a := w) (b := (c' : Int)) (by omega)
  have w2 := fmod_in (a := w) (b := 3 * (c' : Int)) (by omega)
  have w3 : w.fmod c' ≤ w := by
    rw [Int.fmod_eq_emod_of_nonneg _ (by omega)]
    have e1 := Int.emod_add_mul_ediv w c'
    have e2 := Int.mul_nonneg (show (0 : Int) ≤ c' by omega) (Int.ediv_nonneg w0 (show (0 : Int) ≤ c' by omega))
    omega
  have hne : ¬ (3 : Int) * c' = 0 := by omega
  have hw : ∀ u ∈ [w, w - w.fmod c', w.fmod (3 * c'), (c' : Int) + 1, 0], 0 ≤ u := fun u hu => by
    simp only [List.mem_cons, List.not_mem_nil, or_false] at hu
    rcases hu with rfl | rfl | rfl | rfl | rfl <;> omega
  have fin : ∀ ws : List Int, (∀ u ∈ w :: ws, 0 ≤ u) → W 29 f__law_great [.int c', .tuple (ps'.map prD), .list ((w :: ws).map PyData.int)] (fun d => truR d fun t => if t = true then W 29 f__law_typed [] (fun d => truR d fun t => if t = true then W 29 f__law_refusals [.int b] Q E else Q d) E else Q d) E := fun ws hw => by
    refine law_great (n := 16) ct' hw ?_
    simp
    refine law_typed ?_
    simp
    exact law_refusals h
  simp [hc0', a7]
  refine ⟨mul_l (by decide) (by decide), ?_⟩
  by_cases h7 : x7.fmod 4 = 1
  · rw [if_pos h7]
    refine ⟨by decide, ?_⟩
    exact fin [w - w.fmod c', w.fmod (3 * c'), (c' : Int) + 1, 0, 1000000000000000000000000000000] fun u hu => by
      simp only [List.mem_cons, List.not_mem_nil, or_false] at hu
      rcases hu with rfl | rfl | rfl | rfl | rfl | rfl <;> omega
  · rw [if_neg h7]
    exact fin [w - w.fmod c', w.fmod (3 * c'), (c' : Int) + 1, 0] hw
end K30.P

set_option maxHeartbeats 0
namespace K30
open PySem PySem.Spec PyProof.Rows L2 Uq
def fnN0 : List Str := [Str.ofString "is_integer", Str.ofString "is_number", Str.ofString "e_is_chord", Str.ofString "e_chord_fault", Str.ofString "lets_cutting", Str.ofString "is_cutting", Str.ofString "e_need_cutting", Str.ofString "e_need_corners", Str.ofString "e_need_number", Str.ofString "e_cutting_of", Str.ofString "e_neighbour_table", Str.ofString "e_price_list", Str.ofString "e_need_corner_below", Str.ofString "fan", Str.ofString "first_chords", Str.ofString "first_joins", Str.ofString "answer_price", Str.ofString "step_joins", Str.ofString "least_first", Str.ofString "over_least", Str.ofString "is_least_always", Str.ofString "_law_base", Str.ofString "_law_rows", Str.ofString "_law_same", Str.ofString "_law_all", Str.ofString "_law_split", Str.ofString "_law_fan", Str.ofString "_law_ends", Str.ofString "_law_unrolled", Str.ofString "_law_rounds"]
def fnN1 : List Str := [Str.ofString "_law_cost", Str.ofString "_law_ask", Str.ofString "_law_drawn", Str.ofString "_law_answers", Str.ofString "_law_least", Str.ofString "_law_wish", Str.ofString "_law_great", Str.ofString "_law_typed", Str.ofString "_law_refusals", Str.ofString "law"]
def fnN : List Str := fnN0 ++ fnN1
def prms (f : Nat) : List Str := match f with
  | 0 => [Str.ofString "thing"]
  | 1 => [Str.ofString "thing"]
  | 2 => [Str.ofString "corners", Str.ofString "thing"]
  | 3 => [Str.ofString "corners", Str.ofString "chords", Str.ofString "at"]
  | 4 => [Str.ofString "thing"]
  | 5 => [Str.ofString "thing"]
  | 6 => [Str.ofString "cutting"]
  | 7 => [Str.ofString "corners"]
  | 8 => [Str.ofString "name", Str.ofString "thing"]
  | 9 => [Str.ofString "corners", Str.ofString "pairs"]
  | 10 => [Str.ofString "cutting"]
  | 11 => [Str.ofString "cutting"]
  | 12 => [Str.ofString "corners", Str.ofString "corner"]
  | 13 => [Str.ofString "corners", Str.ofString "corner"]
  | 14 => [Str.ofString "cutting", Str.ofString "many"]
  | 15 => [Str.ofString "cutting", Str.ofString "many"]
  | 16 => [Str.ofString "cutting", Str.ofString "answer"]
  | 17 => [Str.ofString "cutting", Str.ofString "step"]
  | 18 => [Str.ofString "width", Str.ofString "many"]
  | 19 => [Str.ofString "cutting", Str.ofString "many"]
  | 20 => [Str.ofString "cutting"]
  | 21 => [Str.ofString "_law_script"]
  | 22 => [Str.ofString "_law_script", Str.ofString "_law_base_here", Str.ofString "_law_place", Str.ofString "_law_size", Str.ofString "_law_limit"]
  | 23 => [Str.ofString "_law_told", Str.ofString "_law_due"]
  | 24 => [Str.ofString "_law_n"]
  | 25 => [Str.ofString "_law_n", Str.ofString "_law_draws"]
  | 26 => [Str.ofString "_law_n", Str.ofString "_law_at"]
  | 27 => [Str.ofString "_law_n", Str.ofString "_law_rows_here"]
  | 28 => [Str.ofString "_law_n", Str.ofString "_law_rows_here", Str.ofString "_law_most"]
  | 29 => [Str.ofString "_law_n", Str.ofString "_law_ends_here", Str.ofString "_law_many_of"]
  | 30 => [Str.ofString "_law_n", Str.ofString "_law_ends_here", Str.ofString "_law_answers_here"]
  | 31 => [Str.ofString "_law_way", Str.ofString "_law_a", Str.ofString "_law_b"]
  | 32 => [Str.ofString "_law_n", Str.ofString "_law_kind", Str.ofString "_law_at", Str.ofString "_law_draws"]
  | 33 => [Str.ofString "_law_n", Str.ofString "_law_rows_here", Str.ofString "_law_most"]
  | 34 => [Str.ofString "_law_n", Str.ofString "_law_rows_here", Str.ofString "_law_listed", Str.ofString "_law_most"]
  | 35 => [Str.ofString "_law_script", Str.ofString "_law_base_here", Str.ofString "_law_place"]
  | 36 => [Str.ofString "_law_n", Str.ofString "_law_rows_here", Str.ofString "_law_wishes"]
  | 37 => []
  | 38 => [Str.ofString "_law_base_here"]
  | 39 => [Str.ofString "_law_script"]
  | _ => []
def shp (f : Nat) : List (Nat × List Str) := match f with
  | 14 => [(0, [Str.ofString "many", Str.ofString "cutting"])]
  | 15 => [(0, [Str.ofString "many", Str.ofString "cutting"])]
  | 16 => [(0, [Str.ofString "answer", Str.ofString "cutting"])]
  | 17 => [(0, [Str.ofString "step", Str.ofString "cutting"])]
  | 18 => [(0, [Str.ofString "many", Str.ofString "width"])]
  | 19 => [(0, [Str.ofString "many", Str.ofString "cutting"])]
  | 20 => [(0, [Str.ofString "cutting"])]
  | _ => []
def vaN : List Str := []
def fnI (x : Str) : Option Nat := if vaN.contains x = true then none else ixOf fnN x
def fvI (x : Str) : Option Nat := if vaN.contains x = true then ixOf fnN x else none
def cf : Cf := ⟨[], fnI, prms, ixOf xcN, shp, rz, fvI⟩
def top (i : Nat) : Stmt := PySem.Challenge.pw_underthree_k30_whole_first_answers.main.body.getD i (.Pass ⟨0, 0, 0, 0⟩)
def N_is_integer : List Str := [Str.ofString "thing"]
theorem c_is_integer : chkD { cf with N := N_is_integer } f_is_integer fn_is_integer (defBody (top 8)) (defScope (top 8)) = true := by decide +kernel
def N_is_number : List Str := [Str.ofString "thing"]
theorem c_is_number : chkD { cf with N := N_is_number } f_is_number fn_is_number (defBody (top 9)) (defScope (top 9)) = true := by decide +kernel
def N_e_is_chord : List Str := [Str.ofString "corners", Str.ofString "thing", Str.ofString "low", Str.ofString "high"]
theorem c_e_is_chord : chkD { cf with N := N_e_is_chord } f_e_is_chord fn_e_is_chord (defBody (top 11)) (defScope (top 11)) = true := by decide +kernel
def N_e_chord_fault : List Str := [Str.ofString "corners", Str.ofString "chords", Str.ofString "at", Str.ofString "chord", Str.ofString "low", Str.ofString "high"]
theorem c_e_chord_fault : chkD { cf with N := N_e_chord_fault } f_e_chord_fault fn_e_chord_fault (defBody (top 12)) (defScope (top 12)) = true := by decide +kernel
def N_lets_cutting : List Str := [Str.ofString "thing", Str.ofString "corners", Str.ofString "chords", Str.ofString "at", Str.ofString "word"]
theorem c_lets_cutting : chkD { cf with N := N_lets_cutting } f_lets_cutting fn_lets_cutting (defBody (top 13)) (defScope (top 13)) = true := by decide +kernel
def N_is_cutting : List Str := [Str.ofString "thing"]
theorem c_is_cutting : chkD { cf with N := N_is_cutting } f_is_cutting fn_is_cutting (defBody (top 14)) (defScope (top 14)) = true := by decide +kernel
def N_e_need_cutting : List Str := [Str.ofString "cutting"]
theorem c_e_need_cutting : chkD { cf with N := N_e_need_cutting } f_e_need_cutting fn_e_need_cutting (defBody (top 16)) (defScope (top 16)) = true := by decide +kernel
def N_e_need_corners : List Str := [Str.ofString "corners"]
theorem c_e_need_corners : chkD { cf with N := N_e_need_corners } f_e_need_corners fn_e_need_corners (defBody (top 17)) (defScope (top 17)) = true := by decide +kernel
def N_e_need_number : List Str := [Str.ofString "name", Str.ofString "thing"]
theorem c_e_need_number : chkD { cf with N := N_e_need_number } f_e_need_number fn_e_need_number (defBody (top 18)) (defScope (top 18)) = true := by decide +kernel
def N_e_cutting_of : List Str := [Str.ofString "corners", Str.ofString "pairs", Str.ofString "found", Str.ofString "one", Str.ofString "other", Str.ofString "pair"]
theorem c_e_cutting_of : chkD { cf with N := N_e_cutting_of } f_e_cutting_of fn_e_cutting_of (defBody (top 19)) (defScope (top 19)) = true := by decide +kernel
def N_e_neighbour_table : List Str := [Str.ofString "cutting", Str.ofString "corners", Str.ofString "chords", Str.ofString "pairs", Str.ofString "at", Str.ofString "table", Str.ofString "_", Str.ofString "low", Str.ofString "high", Str.ofString "row"]
theorem c_e_neighbour_table : chkD { cf with N := N_e_neighbour_table } f_e_neighbour_table fn_e_neighbour_table (defBody (top 20)) (defScope (top 20)) = true := by decide +kernel
def N_e_price_list : List Str := [Str.ofString "cutting", Str.ofString "row"]
theorem c_e_price_list : chkD { cf with N := N_e_price_list } f_e_price_list fn_e_price_list (defBody (top 21)) (defScope (top 21)) = true := by decide +kernel
def N_e_need_corner_below : List Str := [Str.ofString "corners", Str.ofString "corner"]
theorem c_e_need_corner_below : chkD { cf with N := N_e_need_corner_below } f_e_need_corner_below fn_e_need_corner_below (defBody (top 23)) (defScope (top 23)) = true := by decide +kernel
def N_fan : List Str := [Str.ofString "corners", Str.ofString "corner", Str.ofString "other"]
theorem c_fan : chkD { cf with N := N_fan } f_fan fn_fan (defBody (top 24)) (defScope (top 24)) = true := by decide +kernel
def N_first_chords : List Str := [Str.ofString "cutting", Str.ofString "many", Str.ofString "row", Str.ofString "price", Str.ofString "rounds", Str.ofString "rest"]
theorem c_first_chords : chkD { cf with N := N_first_chords } f_first_chords fn_first_chords (defBody (top 26)) (defScope (top 26)) = true := by decide +kernel
def N_first_joins : List Str := [Str.ofString "cutting", Str.ofString "many", Str.ofString "corners"]
theorem c_first_joins : chkD { cf with N := N_first_joins } f_first_joins fn_first_joins (defBody (top 27)) (defScope (top 27)) = true := by decide +kernel
def N_answer_price : List Str := [Str.ofString "cutting", Str.ofString "answer", Str.ofString "corners"]
theorem c_answer_price : chkD { cf with N := N_answer_price } f_answer_price fn_answer_price (defBody (top 28)) (defScope (top 28)) = true := by decide +kernel
def N_step_joins : List Str := [Str.ofString "cutting", Str.ofString "step", Str.ofString "corners", Str.ofString "row", Str.ofString "corner"]
theorem c_step_joins : chkD { cf with N := N_step_joins } f_step_joins fn_step_joins (defBody (top 29)) (defScope (top 29)) = true := by decide +kernel
def N_least_first : List Str := [Str.ofString "width", Str.ofString "many", Str.ofString "rounds", Str.ofString "rest", Str.ofString "more"]
theorem c_least_first : chkD { cf with N := N_least_first } f_least_first fn_least_first (defBody (top 30)) (defScope (top 30)) = true := by decide +kernel
def N_over_least : List Str := [Str.ofString "cutting", Str.ofString "many"]
theorem c_over_least : chkD { cf with N := N_over_least } f_over_least fn_over_least (defBody (top 31)) (defScope (top 31)) = true := by decide +kernel
def N_is_least_always : List Str := [Str.ofString "cutting", Str.ofString "corners"]
theorem c_is_least_always : chkD { cf with N := N_is_least_always } f_is_least_always fn_is_least_always (defBody (top 32)) (defScope (top 32)) = true := by decide +kernel
def N__law_base : List Str := [Str.ofString "_law_script", Str.ofString "_law_base_here", Str.ofString "_law_k", Str.ofString "_law_cell"]
theorem c__law_base : chkD { cf with N := N__law_base } f__law_base fn__law_base (defBody (top 34)) (defScope (top 34)) = true := by decide +kernel
def N__law_rows : List Str := [Str.ofString "_law_script", Str.ofString "_law_base_here", Str.ofString "_law_place", Str.ofString "_law_size", Str.ofString "_law_limit", Str.ofString "_law_cell", Str.ofString "_law_deep", Str.ofString "_law_out", Str.ofString "_law_k", Str.ofString "_law_mixed"]
theorem c__law_rows : chkD { cf with N := N__law_rows } f__law_rows fn__law_rows (defBody (top 35)) (defScope (top 35)) = true := by decide +kernel
def N__law_same : List Str := [Str.ofString "_law_told", Str.ofString "_law_due", Str.ofString "_law_k"]
theorem c__law_same : chkD { cf with N := N__law_same } f__law_same fn__law_same (defBody (top 36)) (defScope (top 36)) = true := by decide +kernel
def N__law_all : List Str := [Str.ofString "_law_n", Str.ofString "_law_table", Str.ofString "_law_size", Str.ofString "_law_found", Str.ofString "_law_m", Str.ofString "_law_low", Str.ofString "_law_high", Str.ofString "_law_rows_here", Str.ofString "_law_a", Str.ofString "_law_b"]
theorem c__law_all : chkD { cf with N := N__law_all } f__law_all fn__law_all (defBody (top 37)) (defScope (top 37)) = true := by decide +kernel
def N__law_split : List Str := [Str.ofString "_law_n", Str.ofString "_law_draws", Str.ofString "_law_rows_here", Str.ofString "_law_stack", Str.ofString "_law_turn", Str.ofString "_law_low", Str.ofString "_law_high", Str.ofString "_law_m", Str.ofString "_law_a", Str.ofString "_law_b"]
theorem c__law_split : chkD { cf with N := N__law_split } f__law_split fn__law_split (defBody (top 38)) (defScope (top 38)) = true := by decide +kernel
def N__law_fan : List Str := [Str.ofString "_law_n", Str.ofString "_law_at", Str.ofString "_law_rows_here", Str.ofString "_law_k"]
theorem c__law_fan : chkD { cf with N := N__law_fan } f__law_fan fn__law_fan (defBody (top 39)) (defScope (top 39)) = true := by decide +kernel
def N__law_ends : List Str := [Str.ofString "_law_n", Str.ofString "_law_rows_here", Str.ofString "_law_out", Str.ofString "_law_k", Str.ofString "_law_a", Str.ofString "_law_b"]
theorem c__law_ends : chkD { cf with N := N__law_ends } f__law_ends fn__law_ends (defBody (top 40)) (defScope (top 40)) = true := by decide +kernel
def N__law_unrolled : List Str := [Str.ofString "_law_n", Str.ofString "_law_rows_here", Str.ofString "_law_most", Str.ofString "_law_near", Str.ofString "_law_k", Str.ofString "_law_a", Str.ofString "_law_b", Str.ofString "_law_made", Str.ofString "_law_fresh", Str.ofString "_law_j", Str.ofString "_law_steps", Str.ofString "_law_stack", Str.ofString "_law_turn", Str.ofString "_law_p"]
theorem c__law_unrolled : chkD { cf with N := N__law_unrolled } f__law_unrolled fn__law_unrolled (defBody (top 41)) (defScope (top 41)) = true := by decide +kernel
def N__law_rounds : List Str := [Str.ofString "_law_n", Str.ofString "_law_ends_here", Str.ofString "_law_many_of", Str.ofString "_law_out", Str.ofString "_law_k"]
theorem c__law_rounds : chkD { cf with N := N__law_rounds } f__law_rounds fn__law_rounds (defBody (top 42)) (defScope (top 42)) = true := by decide +kernel
def N__law_cost : List Str := [Str.ofString "_law_n", Str.ofString "_law_ends_here", Str.ofString "_law_answers_here"]
theorem c__law_cost : chkD { cf with N := N__law_cost } f__law_cost fn__law_cost (defBody (top 43)) (defScope (top 43)) = true := by decide +kernel
def N__law_ask : List Str := [Str.ofString "_law_way", Str.ofString "_law_a", Str.ofString "_law_b", Str.ofString "_law_told", Str.ofString "e"]
theorem c__law_ask : chkD { cf with N := N__law_ask } f__law_ask fn__law_ask (defBody (top 44)) (defScope (top 44)) = true := by decide +kernel
def N__law_drawn : List Str := [Str.ofString "_law_n", Str.ofString "_law_kind", Str.ofString "_law_at", Str.ofString "_law_draws"]
theorem c__law_drawn : chkD { cf with N := N__law_drawn } f__law_drawn fn__law_drawn (defBody (top 45)) (defScope (top 45)) = true := by decide +kernel
def N__law_answers : List Str := [Str.ofString "_law_n", Str.ofString "_law_rows_here", Str.ofString "_law_most", Str.ofString "_law_shape", Str.ofString "_law_fresh", Str.ofString "_law_steps", Str.ofString "_law_total", Str.ofString "_law_j", Str.ofString "_law_passed", Str.ofString "_law_step_at", Str.ofString "_law_told"]
theorem c__law_answers : chkD { cf with N := N__law_answers } f__law_answers fn__law_answers (defBody (top 46)) (defScope (top 46)) = true := by decide +kernel
def N__law_least : List Str := [Str.ofString "_law_n", Str.ofString "_law_rows_here", Str.ofString "_law_listed", Str.ofString "_law_most", Str.ofString "_law_shape", Str.ofString "_law_tables", Str.ofString "_law_other_rows", Str.ofString "_law_mine", Str.ofString "_law_best", Str.ofString "_law_costs_now", Str.ofString "_law_k", Str.ofString "_law_least_here", Str.ofString "_law_over", Str.ofString "_law_total", Str.ofString "_law_j"]
theorem c__law_least : chkD { cf with N := N__law_least } f__law_least fn__law_least (defBody (top 47)) (defScope (top 47)) = true := by decide +kernel
def N__law_wish : List Str := [Str.ofString "_law_script", Str.ofString "_law_base_here", Str.ofString "_law_place", Str.ofString "_law_out", Str.ofString "_law_part"]
theorem c__law_wish : chkD { cf with N := N__law_wish } f__law_wish fn__law_wish (defBody (top 48)) (defScope (top 48)) = true := by decide +kernel
def N__law_great : List Str := [Str.ofString "_law_n", Str.ofString "_law_rows_here", Str.ofString "_law_wishes", Str.ofString "_law_shape", Str.ofString "_law_ends_here", Str.ofString "_law_fans", Str.ofString "_law_wish_here", Str.ofString "_law_cost_here", Str.ofString "_law_least_here", Str.ofString "_law_step_at", Str.ofString "_law_due", Str.ofString "_law_a", Str.ofString "_law_b"]
theorem c__law_great : chkD { cf with N := N__law_great } f__law_great fn__law_great (defBody (top 49)) (defScope (top 49)) = true := by decide +kernel
def N__law_typed : List Str := [Str.ofString "_law_fan_here", Str.ofString "_law_hexes", Str.ofString "_law_rows_here", Str.ofString "_law_way", Str.ofString "_law_a", Str.ofString "_law_b", Str.ofString "_law_due"]
theorem c__law_typed : chkD { cf with N := N__law_typed } f__law_typed fn__law_typed (defBody (top 50)) (defScope (top 50)) = true := by decide +kernel
def N__law_refusals : List Str := [Str.ofString "_law_base_here", Str.ofString "_law_low", Str.ofString "_law_fan_here", Str.ofString "_law_bad", Str.ofString "_law_way", Str.ofString "_law_words", Str.ofString "_law_first"]
theorem c__law_refusals : chkD { cf with N := N__law_refusals } f__law_refusals fn__law_refusals (defBody (top 51)) (defScope (top 51)) = true := by decide +kernel
def N_law : List Str := [Str.ofString "_law_script", Str.ofString "_law_base_here", Str.ofString "_law_lead", Str.ofString "_law_n", Str.ofString "_law_rows_here", Str.ofString "_law_listed", Str.ofString "_law_most", Str.ofString "_law_size", Str.ofString "_law_wide", Str.ofString "_law_wish_here", Str.ofString "_law_wishes"]
theorem c_law : chkD { cf with N := N_law } f_law fn_law (defBody (top 52)) (defScope (top 52)) = true := by decide +kernel
theorem i_InvalidPaper : chkN (flds 4) [Str.ofString "self", Str.ofString "word", Str.ofString "at"] (defBody (inClass (top 5) 0)) (defScope (inClass (top 5) 0)) = true := by decide +kernel
theorem i_NotUsable : chkN (flds 5) [Str.ofString "self", Str.ofString "word", Str.ofString "at"] (defBody (inClass (top 6) 0)) (defScope (inClass (top 6) 0)) = true := by decide +kernel
def dd (x : Str) (i : Nat) : He.DefD := ⟨(x, none), x, x, defArgs (top i), defBody (top i), defScope (top i), [], []⟩
def di (x q : Str) (i j : Nat) : He.DefD := ⟨(x, some "__init__"), "__init__", q, defArgs (inClass (top i) j), defBody (inClass (top i) j), defScope (inClass (top i) j), [], []⟩
def fn0 : List He.DefD := [dd "is_integer" 8, dd "is_number" 9, dd "e_is_chord" 11, dd "e_chord_fault" 12, dd "lets_cutting" 13, dd "is_cutting" 14, dd "e_need_cutting" 16, dd "e_need_corners" 17, dd "e_need_number" 18, dd "e_cutting_of" 19, dd "e_neighbour_table" 20, dd "e_price_list" 21, dd "e_need_corner_below" 23, dd "fan" 24, dd "first_chords" 26, dd "first_joins" 27, dd "answer_price" 28, dd "step_joins" 29, dd "least_first" 30, dd "over_least" 31]
def fn1 : List He.DefD := [dd "is_least_always" 32, dd "_law_base" 34, dd "_law_rows" 35, dd "_law_same" 36, dd "_law_all" 37, dd "_law_split" 38, dd "_law_fan" 39, dd "_law_ends" 40, dd "_law_unrolled" 41, dd "_law_rounds" 42, dd "_law_cost" 43, dd "_law_ask" 44, dd "_law_drawn" 45, dd "_law_answers" 46, dd "_law_least" 47, dd "_law_wish" 48, dd "_law_great" 49, dd "_law_typed" 50, dd "_law_refusals" 51, dd "law" 52]
def fn2 : List He.DefD := [di "InvalidPaper" "InvalidPaper.__init__" 5 0, di "NotUsable" "NotUsable.__init__" 6 0]
def fn : List He.DefD := fn0 ++ fn1 ++ fn2
def fa : List He.Fa := fnN.map He.Fa.glo ++ (xcN.map He.Fa.glo ++ biNames.map He.Fa.free)
def ca (Kf : PySem.W.Frag) (c : Nat) : Addr := He.ga Kf (xcN.getD c Str.empty)
def ex (Kf : PySem.W.Frag) : Bool := rz.all fun c => xcB Kf (ca Kf c) (flds c) && (decide (PySem.W.kitOne Kf (.ref (ca Kf c)) (.type "ValueError") = some (sub c 1000)) && (List.range xcN.length).all fun h => decide (PySem.W.exmOne Kf (.ref (ca Kf c)) (.ref (ca Kf h)) = some (sub c h)) && decide (PySem.W.kitOne Kf (.ref (ca Kf c)) (.ref (ca Kf h)) = some (sub c h)))
abbrev R : PySem.W.OpenRow := PySem.W.OpenLaw.row PySem.Challenge.rw_underthree_k30_whole_first_answers
abbrev hk : PySem.W.Hook := hookU 4 fa fn ex
def ob (s : PySem.W.SharedT) : Bool × List He.FnW := obsUG 4 fa fn ex (HandSHeadRun.getT s)
theorem ob_eq (s : PySem.W.SharedT) : ob s = hk.obs s.abs := obsUG_eq (HandSHeadRun.getT_eq s)
def loose0 : List Str := [Str.ofString "UnderError", Str.ofString "PaperError", Str.ofString "AskError", Str.ofString "CuttingError", Str.ofString "InvalidPaper", Str.ofString "NotUsable", Str.ofString "is_integer", Str.ofString "is_number", Str.ofString "e_is_chord", Str.ofString "e_chord_fault", Str.ofString "lets_cutting", Str.ofString "is_cutting", Str.ofString "e_need_cutting", Str.ofString "e_need_corners", Str.ofString "e_need_number", Str.ofString "e_cutting_of", Str.ofString "e_neighbour_table", Str.ofString "e_price_list", Str.ofString "e_need_corner_below", Str.ofString "fan", Str.ofString "first_chords", Str.ofString "first_joins", Str.ofString "answer_price", Str.ofString "step_joins", Str.ofString "least_first", Str.ofString "over_least", Str.ofString "is_least_always", Str.ofString "_law_base", Str.ofString "_law_rows", Str.ofString "_law_same"]
def loose1 : List Str := [Str.ofString "_law_all", Str.ofString "_law_split", Str.ofString "_law_fan", Str.ofString "_law_ends", Str.ofString "_law_unrolled", Str.ofString "_law_rounds", Str.ofString "_law_cost", Str.ofString "_law_ask", Str.ofString "_law_drawn", Str.ofString "_law_answers", Str.ofString "_law_least", Str.ofString "_law_wish", Str.ofString "_law_great", Str.ofString "_law_typed", Str.ofString "_law_refusals"]
def loose : List Str := loose0 ++ loose1
theorem run (w : World) : HandSHeadRun.RunEq R (PySem.W.view R.prog [52]) hk ob 6000 loose w := by
  intro os
  kernel_rfl
def Pk (Kf : PySem.W.Frag) : Pg := ⟨ca Kf, flds, xa0, rz⟩
section
variable {Kf : PySem.W.Frag} {h : Heap} {mg : Str → Option Value}
theorem glo_fn {i : Nat} {x : Str} (e : fnN[i]? = some x) : He.Fa.glo x ∈ fa := List.mem_append_left _ (List.mem_map_of_mem (List.mem_of_getElem? e))
theorem glo_xc {i : Nat} {x : Str} (e : xcN[i]? = some x) : He.Fa.glo x ∈ fa := List.mem_append_right _ (List.mem_append_left _ (List.mem_map_of_mem (List.mem_of_getElem? e)))
theorem free_bi {x : Str} (e : x ∈ biNames) : He.Fa.free x ∈ fa := List.mem_append_right _ (List.mem_append_right _ (List.mem_map_of_mem e))
theorem d_is_integer (X : Kf.In h) (G : h.Ns mainGlobals mg) (c : SaysU fa fn ex Kf) : ∃ a fd, DfAt Kf mg cf T "is_integer" f_is_integer a fd :=
  df_of (st := top 8) N_is_integer (He.glo_ok X G (c.bools.1 _ (glo_fn (i := 0) rfl))) (c.def_ 0 (d := dd "is_integer" 8) rfl) (fun fd F => F.bindsN fun _ _ _ _ _ _ us hl => match us, hl with | [_], _ => rfl) (fun fd F => sh_nil) rfl c_is_integer
theorem d_is_number (X : Kf.In h) (G : h.Ns mainGlobals mg) (c : SaysU fa fn ex Kf) : ∃ a fd, DfAt Kf mg cf T "is_number" f_is_number a fd :=
  df_of (st := top 9) N_is_number (He.glo_ok X G (c.bools.1 _ (glo_fn (i := 1) rfl))) (c.def_ 1 (d := dd "is_number" 9) rfl) (fun fd F => F.bindsN fun _ _ _ _ _ _ us hl => match us, hl with | [_], _ => rfl) (fun fd F => sh_nil) rfl c_is_number
theorem d_e_is_chord (X : Kf.In h) (G : h.Ns mainGlobals mg) (c : SaysU fa fn ex Kf) : ∃ a fd, DfAt Kf mg cf T "e_is_chord" f_e_is_chord a fd :=
  df_of (st := top 11) N_e_is_chord (He.glo_ok X G (c.bools.1 _ (glo_fn (i := 2) rfl))) (c.def_ 2 (d := dd "e_is_chord" 11) rfl) (fun fd F => F.bindsN fun _ _ _ _ _ _ us hl => match us, hl with | [_, _], _ => rfl) (fun fd F => sh_nil) rfl c_e_is_chord
theorem d_e_chord_fault (X : Kf.In h) (G : h.Ns mainGlobals mg) (c : SaysU fa fn ex Kf) : ∃ a fd, DfAt Kf mg cf T "e_chord_fault" f_e_chord_fault a fd :=
  df_of (st := top 12) N_e_chord_fault (He.glo_ok X G (c.bools.1 _ (glo_fn (i := 3) rfl))) (c.def_ 3 (d := dd "e_chord_fault" 12) rfl) (fun fd F => F.bindsN fun _ _ _ _ _ _ us hl => match us, hl with | [_, _, _], _ => rfl) (fun fd F => sh_nil) rfl c_e_chord_fault
theorem d_lets_cutting (X : Kf.In h) (G : h.Ns mainGlobals mg) (c : SaysU fa fn ex Kf) : ∃ a fd, DfAt Kf mg cf T "lets_cutting" f_lets_cutting a fd :=
  df_of (st := top 13) N_lets_cutting (He.glo_ok X G (c.bools.1 _ (glo_fn (i := 4) rfl))) (c.def_ 4 (d := dd "lets_cutting" 13) rfl) (fun fd F => F.bindsN fun _ _ _ _ _ _ us hl => match us, hl with | [_], _ => rfl) (fun fd F => sh_nil) rfl c_lets_cutting
theorem d_is_cutting (X : Kf.In h) (G : h.Ns mainGlobals mg) (c : SaysU fa fn ex Kf) : ∃ a fd, DfAt Kf mg cf T "is_cutting" f_is_cutting a fd :=
  df_of (st := top 14) N_is_cutting (He.glo_ok X G (c.bools.1 _ (glo_fn (i := 5) rfl))) (c.def_ 5 (d := dd "is_cutting" 14) rfl) (fun fd F => F.bindsN fun _ _ _ _ _ _ us hl => match us, hl with | [_], _ => rfl) (fun fd F => sh_nil) rfl c_is_cutting
theorem d_e_need_cutting (X : Kf.In h) (G : h.Ns mainGlobals mg) (c : SaysU fa fn ex Kf) : ∃ a fd, DfAt Kf mg cf T "e_need_cutting" f_e_need_cutting a fd :=
  df_of (st := top 16) N_e_need_cutting (He.glo_ok X G (c.bools.1 _ (glo_fn (i := 6) rfl))) (c.def_ 6 (d := dd "e_need_cutting" 16) rfl) (fun fd F => F.bindsN fun _ _ _ _ _ _ us hl => match us, hl with | [_], _ => rfl) (fun fd F => sh_nil) rfl c_e_need_cutting
theorem d_e_need_corners (X : Kf.In h) (G : h.Ns mainGlobals mg) (c : SaysU fa fn ex Kf) : ∃ a fd, DfAt Kf mg cf T "e_need_corners" f_e_need_corners a fd :=
  df_of (st := top 17) N_e_need_corners (He.glo_ok X G (c.bools.1 _ (glo_fn (i := 7) rfl))) (c.def_ 7 (d := dd "e_need_corners" 17) rfl) (fun fd F => F.bindsN fun _ _ _ _ _ _ us hl => match us, hl with | [_], _ => rfl) (fun fd F => sh_nil) rfl c_e_need_corners
theorem d_e_need_number (X : Kf.In h) (G : h.Ns mainGlobals mg) (c : SaysU fa fn ex Kf) : ∃ a fd, DfAt Kf mg cf T "e_need_number" f_e_need_number a fd :=
  df_of (st := top 18) N_e_need_number (He.glo_ok X G (c.bools.1 _ (glo_fn (i := 8) rfl))) (c.def_ 8 (d := dd "e_need_number" 18) rfl) (fun fd F => F.bindsN fun _ _ _ _ _ _ us hl => match us, hl with | [_, _], _ => rfl) (fun fd F => sh_nil) rfl c_e_need_number
theorem d_e_cutting_of (X : Kf.In h) (G : h.Ns mainGlobals mg) (c : SaysU fa fn ex Kf) : ∃ a fd, DfAt Kf mg cf T "e_cutting_of" f_e_cutting_of a fd :=
  df_of (st := top 19) N_e_cutting_of (He.glo_ok X G (c.bools.1 _ (glo_fn (i := 9) rfl))) (c.def_ 9 (d := dd "e_cutting_of" 19) rfl) (fun fd F => F.bindsN fun _ _ _ _ _ _ us hl => match us, hl with | [_, _], _ => rfl) (fun fd F => sh_nil) rfl c_e_cutting_of
theorem d_e_neighbour_table (X : Kf.In h) (G : h.Ns mainGlobals mg) (c : SaysU fa fn ex Kf) : ∃ a fd, DfAt Kf mg cf T "e_neighbour_table" f_e_neighbour_table a fd :=
  df_of (st := top 20) N_e_neighbour_table (He.glo_ok X G (c.bools.1 _ (glo_fn (i := 10) rfl))) (c.def_ 10 (d := dd "e_neighbour_table" 20) rfl) (fun fd F => F.bindsN fun _ _ _ _ _ _ us hl => match us, hl with | [_], _ => rfl) (fun fd F => sh_nil) rfl c_e_neighbour_table
theorem d_e_price_list (X : Kf.In h) (G : h.Ns mainGlobals mg) (c : SaysU fa fn ex Kf) : ∃ a fd, DfAt Kf mg cf T "e_price_list" f_e_price_list a fd :=
  df_of (st := top 21) N_e_price_list (He.glo_ok X G (c.bools.1 _ (glo_fn (i := 11) rfl))) (c.def_ 11 (d := dd "e_price_list" 21) rfl) (fun fd F => F.bindsN fun _ _ _ _ _ _ us hl => match us, hl with | [_], _ => rfl) (fun fd F => sh_nil) rfl c_e_price_list
theorem d_e_need_corner_below (X : Kf.In h) (G : h.Ns mainGlobals mg) (c : SaysU fa fn ex Kf) : ∃ a fd, DfAt Kf mg cf T "e_need_corner_below" f_e_need_corner_below a fd :=
  df_of (st := top 23) N_e_need_corner_below (He.glo_ok X G (c.bools.1 _ (glo_fn (i := 12) rfl))) (c.def_ 12 (d := dd "e_need_corner_below" 23) rfl) (fun fd F => F.bindsN fun _ _ _ _ _ _ us hl => match us, hl with | [_, _], _ => rfl) (fun fd F => sh_nil) rfl c_e_need_corner_below
theorem d_fan (X : Kf.In h) (G : h.Ns mainGlobals mg) (c : SaysU fa fn ex Kf) : ∃ a fd, DfAt Kf mg cf T "fan" f_fan a fd :=
  df_of (st := top 24) N_fan (He.glo_ok X G (c.bools.1 _ (glo_fn (i := 13) rfl))) (c.def_ 13 (d := dd "fan" 24) rfl) (fun fd F => F.bindsN fun _ _ _ _ _ _ us hl => match us, hl with | [_, _], _ => rfl) (fun fd F => sh_nil) rfl c_fan
theorem d_first_chords (X : Kf.In h) (G : h.Ns mainGlobals mg) (c : SaysU fa fn ex Kf) : ∃ a fd, DfAt Kf mg cf T "first_chords" f_first_chords a fd :=
  df_of (st := top 26) N_first_chords (He.glo_ok X G (c.bools.1 _ (glo_fn (i := 14) rfl))) (c.def_ 14 (d := dd "first_chords" 26) rfl) (fun fd F => F.bindsN fun _ _ _ _ _ _ us hl => match us, hl with | [_, _], _ => rfl) (fun fd F => sh_cons (Uq.FunD.shp F fun _ _ _ _ _ _ us ws l1 l2 => match us, ws, l1, l2 with | [], [_, _], _, _ => rfl) (sh_nil)) rfl c_first_chords
theorem d_first_joins (X : Kf.In h) (G : h.Ns mainGlobals mg) (c : SaysU fa fn ex Kf) : ∃ a fd, DfAt Kf mg cf T "first_joins" f_first_joins a fd :=
  df_of (st := top 27) N_first_joins (He.glo_ok X G (c.bools.1 _ (glo_fn (i := 15) rfl))) (c.def_ 15 (d := dd "first_joins" 27) rfl) (fun fd F => F.bindsN fun _ _ _ _ _ _ us hl => match us, hl with | [_, _], _ => rfl) (fun fd F => sh_cons (Uq.FunD.shp F fun _ _ _ _ _ _ us ws l1 l2 => match us, ws, l1, l2 with | [], [_, _], _, _ => rfl) (sh_nil)) rfl c_first_joins
theorem d_answer_price (X : Kf.In h) (G : h.Ns mainGlobals mg) (c : SaysU fa fn ex Kf) : ∃ a fd, DfAt Kf mg cf T "answer_price" f_answer_price a fd :=
  df_of (st := top 28) N_answer_price (He.glo_ok X G (c.bools.1 _ (glo_fn (i := 16) rfl))) (c.def_ 16 (d := dd "answer_price" 28) rfl) (fun fd F => F.bindsN fun _ _ _ _ _ _ us hl => match us, hl with | [_, _], _ => rfl) (fun fd F => sh_cons (Uq.FunD.shp F fun _ _ _ _ _ _ us ws l1 l2 => match us, ws, l1, l2 with | [], [_, _], _, _ => rfl) (sh_nil)) rfl c_answer_price
theorem d_step_joins (X : Kf.In h) (G : h.Ns mainGlobals mg) (c : SaysU fa fn ex Kf) : ∃ a fd, DfAt Kf mg cf T "step_joins" f_step_joins a fd :=
  df_of (st := top 29) N_step_joins (He.glo_ok X G (c.bools.1 _ (glo_fn (i := 17) rfl))) (c.def_ 17 (d := dd "step_joins" 29) rfl) (fun fd F => F.bindsN fun _ _ _ _ _ _ us hl => match us, hl with | [_, _], _ => rfl) (fun fd F => sh_cons (Uq.FunD.shp F fun _ _ _ _ _ _ us ws l1 l2 => match us, ws, l1, l2 with | [], [_, _], _, _ => rfl) (sh_nil)) rfl c_step_joins
theorem d_least_first (X : Kf.In h) (G : h.Ns mainGlobals mg) (c : SaysU fa fn ex Kf) : ∃ a fd, DfAt Kf mg cf T "least_first" f_least_first a fd :=
  df_of (st := top 30) N_least_first (He.glo_ok X G (c.bools.1 _ (glo_fn (i := 18) rfl))) (c.def_ 18 (d := dd "least_first" 30) rfl) (fun fd F => F.bindsN fun _ _ _ _ _ _ us hl => match us, hl with | [_, _], _ => rfl) (fun fd F => sh_cons (Uq.FunD.shp F fun _ _ _ _ _ _ us ws l1 l2 => match us, ws, l1, l2 with | [], [_, _], _, _ => rfl) (sh_nil)) rfl c_least_first
theorem d_over_least (X : Kf.In h) (G : h.Ns mainGlobals mg) (c : SaysU fa fn ex Kf) : ∃ a fd, DfAt Kf mg cf T "over_least" f_over_least a fd :=
  df_of (st := top 31) N_over_least (He.glo_ok X G (c.bools.1 _ (glo_fn (i := 19) rfl))) (c.def_ 19 (d := dd "over_least" 31) rfl) (fun fd F => F.bindsN fun _ _ _ _ _ _ us hl => match us, hl with | [_, _], _ => rfl) (fun fd F => sh_cons (Uq.FunD.shp F fun _ _ _ _ _ _ us ws l1 l2 => match us, ws, l1, l2 with | [], [_, _], _, _ => rfl) (sh_nil)) rfl c_over_least
theorem d_is_least_always (X : Kf.In h) (G : h.Ns mainGlobals mg) (c : SaysU fa fn ex Kf) : ∃ a fd, DfAt Kf mg cf T "is_least_always" f_is_least_always a fd :=
  df_of (st := top 32) N_is_least_always (He.glo_ok X G (c.bools.1 _ (glo_fn (i := 20) rfl))) (c.def_ 20 (d := dd "is_least_always" 32) rfl) (fun fd F => F.bindsN fun _ _ _ _ _ _ us hl => match us, hl with | [_], _ => rfl) (fun fd F => sh_cons (Uq.FunD.shp F fun _ _ _ _ _ _ us ws l1 l2 => match us, ws, l1, l2 with | [], [_], _, _ => rfl) (sh_nil)) rfl c_is_least_always
theorem d__law_base (X : Kf.In h) (G : h.Ns mainGlobals mg) (c : SaysU fa fn ex Kf) : ∃ a fd, DfAt Kf mg cf T "_law_base" f__law_base a fd :=
  df_of (st := top 34) N__law_base (He.glo_ok X G (c.bools.1 _ (glo_fn (i := 21) rfl))) (c.def_ 21 (d := dd "_law_base" 34) rfl) (fun fd F => F.bindsN fun _ _ _ _ _ _ us hl => match us, hl with | [_], _ => rfl) (fun fd F => sh_nil) rfl c__law_base
theorem d__law_rows (X : Kf.In h) (G : h.Ns mainGlobals mg) (c : SaysU fa fn ex Kf) : ∃ a fd, DfAt Kf mg cf T "_law_rows" f__law_rows a fd :=
  df_of (st := top 35) N__law_rows (He.glo_ok X G (c.bools.1 _ (glo_fn (i := 22) rfl))) (c.def_ 22 (d := dd "_law_rows" 35) rfl) (fun fd F => F.bindsN fun _ _ _ _ _ _ us hl => match us, hl with | [_, _, _, _, _], _ => rfl) (fun fd F => sh_nil) rfl c__law_rows
theorem d__law_same (X : Kf.In h) (G : h.Ns mainGlobals mg) (c : SaysU fa fn ex Kf) : ∃ a fd, DfAt Kf mg cf T "_law_same" f__law_same a fd :=
  df_of (st := top 36) N__law_same (He.glo_ok X G (c.bools.1 _ (glo_fn (i := 23) rfl))) (c.def_ 23 (d := dd "_law_same" 36) rfl) (fun fd F => F.bindsN fun _ _ _ _ _ _ us hl => match us, hl with | [_, _], _ => rfl) (fun fd F => sh_nil) rfl c__law_same
theorem d__law_all (X : Kf.In h) (G : h.Ns mainGlobals mg) (c : SaysU fa fn ex Kf) : ∃ a fd, DfAt Kf mg cf T "_law_all" f__law_all a fd :=
  df_of (st := top 37) N__law_all (He.glo_ok X G (c.bools.1 _ (glo_fn (i := 24) rfl))) (c.def_ 24 (d := dd "_law_all" 37) rfl) (fun fd F => F.bindsN fun _ _ _ _ _ _ us hl => match us, hl with | [_], _ => rfl) (fun fd F => sh_nil) rfl c__law_all
theorem d__law_split (X : Kf.In h) (G : h.Ns mainGlobals mg) (c : SaysU fa fn ex Kf) : ∃ a fd, DfAt Kf mg cf T "_law_split" f__law_split a fd :=
  df_of (st := top 38) N__law_split (He.glo_ok X G (c.bools.1 _ (glo_fn (i := 25) rfl))) (c.def_ 25 (d := dd "_law_split" 38) rfl) (fun fd F => F.bindsN fun _ _ _ _ _ _ us hl => match us, hl with | [_, _], _ => rfl) (fun fd F => sh_nil) rfl c__law_split
theorem d__law_fan (X : Kf.In h) (G : h.Ns mainGlobals mg) (c : SaysU fa fn ex Kf) : ∃ a fd, DfAt Kf mg cf T "_law_fan" f__law_fan a fd :=
  df_of (st := top 39) N__law_fan (He.glo_ok X G (c.bools.1 _ (glo_fn (i := 26) rfl))) (c.def_ 26 (d := dd "_law_fan" 39) rfl) (fun fd F => F.bindsN fun _ _ _ _ _ _ us hl => match us, hl with | [_, _], _ => rfl) (fun fd F => sh_nil) rfl c__law_fan
theorem d__law_ends (X : Kf.In h) (G : h.Ns mainGlobals mg) (c : SaysU fa fn ex Kf) : ∃ a fd, DfAt Kf mg cf T "_law_ends" f__law_ends a fd :=
  df_of (st := top 40) N__law_ends (He.glo_ok X G (c.bools.1 _ (glo_fn (i := 27) rfl))) (c.def_ 27 (d := dd "_law_ends" 40) rfl) (fun fd F => F.bindsN fun _ _ _ _ _ _ us hl => match us, hl with | [_, _], _ => rfl) (fun fd F => sh_nil) rfl c__law_ends
theorem d__law_unrolled (X : Kf.In h) (G : h.Ns mainGlobals mg) (c : SaysU fa fn ex Kf) : ∃ a fd, DfAt Kf mg cf T "_law_unrolled" f__law_unrolled a fd :=
  df_of (st := top 41) N__law_unrolled (He.glo_ok X G (c.bools.1 _ (glo_fn (i := 28) rfl))) (c.def_ 28 (d := dd "_law_unrolled" 41) rfl) (fun fd F => F.bindsN fun _ _ _ _ _ _ us hl => match us, hl with | [_, _, _], _ => rfl) (fun fd F => sh_nil) rfl c__law_unrolled
theorem d__law_rounds (X : Kf.In h) (G : h.Ns mainGlobals mg) (c : SaysU fa fn ex Kf) : ∃ a fd, DfAt Kf mg cf T "_law_rounds" f__law_rounds a fd :=
  df_of (st := top 42) N__law_rounds (He.glo_ok X G (c.bools.1 _ (glo_fn (i := 29) rfl))) (c.def_ 29 (d := dd "_law_rounds" 42) rfl) (fun fd F => F.bindsN fun _ _ _ _ _ _ us hl => match us, hl with | [_, _, _], _ => rfl) (fun fd F => sh_nil) rfl c__law_rounds
theorem d__law_cost (X : Kf.In h) (G : h.Ns mainGlobals mg) (c : SaysU fa fn ex Kf) : ∃ a fd, DfAt Kf mg cf T "_law_cost" f__law_cost a fd :=
  df_of (st := top 43) N__law_cost (He.glo_ok X G (c.bools.1 _ (glo_fn (i := 30) rfl))) (c.def_ 30 (d := dd "_law_cost" 43) rfl) (fun fd F => F.bindsN fun _ _ _ _ _ _ us hl => match us, hl with | [_, _, _], _ => rfl) (fun fd F => sh_nil) rfl c__law_cost
theorem d__law_ask (X : Kf.In h) (G : h.Ns mainGlobals mg) (c : SaysU fa fn ex Kf) : ∃ a fd, DfAt Kf mg cf T "_law_ask" f__law_ask a fd :=
  df_of (st := top 44) N__law_ask (He.glo_ok X G (c.bools.1 _ (glo_fn (i := 31) rfl))) (c.def_ 31 (d := dd "_law_ask" 44) rfl) (fun fd F => F.bindsN fun _ _ _ _ _ _ us hl => match us, hl with | [_, _, _], _ => rfl) (fun fd F => sh_nil) rfl c__law_ask
theorem d__law_drawn (X : Kf.In h) (G : h.Ns mainGlobals mg) (c : SaysU fa fn ex Kf) : ∃ a fd, DfAt Kf mg cf T "_law_drawn" f__law_drawn a fd :=
  df_of (st := top 45) N__law_drawn (He.glo_ok X G (c.bools.1 _ (glo_fn (i := 32) rfl))) (c.def_ 32 (d := dd "_law_drawn" 45) rfl) (fun fd F => F.bindsN fun _ _ _ _ _ _ us hl => match us, hl with | [_, _, _, _], _ => rfl) (fun fd F => sh_nil) rfl c__law_drawn
theorem d__law_answers (X : Kf.In h) (G : h.Ns mainGlobals mg) (c : SaysU fa fn ex Kf) : ∃ a fd, DfAt Kf mg cf T "_law_answers" f__law_answers a fd :=
  df_of (st := top 46) N__law_answers (He.glo_ok X G (c.bools.1 _ (glo_fn (i := 33) rfl))) (c.def_ 33 (d := dd "_law_answers" 46) rfl) (fun fd F => F.bindsN fun _ _ _ _ _ _ us hl => match us, hl with | [_, _, _], _ => rfl) (fun fd F => sh_nil) rfl c__law_answers
theorem d__law_least (X : Kf.In h) (G : h.Ns mainGlobals mg) (c : SaysU fa fn ex Kf) : ∃ a fd, DfAt Kf mg cf T "_law_least" f__law_least a fd :=
  df_of (st := top 47) N__law_least (He.glo_ok X G (c.bools.1 _ (glo_fn (i := 34) rfl))) (c.def_ 34 (d := dd "_law_least" 47) rfl) (fun fd F => F.bindsN fun _ _ _ _ _ _ us hl => match us, hl with | [_, _, _, _], _ => rfl) (fun fd F => sh_nil) rfl c__law_least
theorem d__law_wish (X : Kf.In h) (G : h.Ns mainGlobals mg) (c : SaysU fa fn ex Kf) : ∃ a fd, DfAt Kf mg cf T "_law_wish" f__law_wish a fd :=
  df_of (st := top 48) N__law_wish (He.glo_ok X G (c.bools.1 _ (glo_fn (i := 35) rfl))) (c.def_ 35 (d := dd "_law_wish" 48) rfl) (fun fd F => F.bindsN fun _ _ _ _ _ _ us hl => match us, hl with | [_, _, _], _ => rfl) (fun fd F => sh_nil) rfl c__law_wish
theorem d__law_great (X : Kf.In h) (G : h.Ns mainGlobals mg) (c : SaysU fa fn ex Kf) : ∃ a fd, DfAt Kf mg cf T "_law_great" f__law_great a fd :=
  df_of (st := top 49) N__law_great (He.glo_ok X G (c.bools.1 _ (glo_fn (i := 36) rfl))) (c.def_ 36 (d := dd "_law_great" 49) rfl) (fun fd F => F.bindsN fun _ _ _ _ _ _ us hl => match us, hl with | [_, _, _], _ => rfl) (fun fd F => sh_nil) rfl c__law_great
theorem d__law_typed (X : Kf.In h) (G : h.Ns mainGlobals mg) (c : SaysU fa fn ex Kf) : ∃ a fd, DfAt Kf mg cf T "_law_typed" f__law_typed a fd :=
  df_of (st := top 50) N__law_typed (He.glo_ok X G (c.bools.1 _ (glo_fn (i := 37) rfl))) (c.def_ 37 (d := dd "_law_typed" 50) rfl) (fun fd F => F.bindsN fun _ _ _ _ _ _ us hl => match us, hl with | [], _ => rfl) (fun fd F => sh_nil) rfl c__law_typed
theorem d__law_refusals (X : Kf.In h) (G : h.Ns mainGlobals mg) (c : SaysU fa fn ex Kf) : ∃ a fd, DfAt Kf mg cf T "_law_refusals" f__law_refusals a fd :=
  df_of (st := top 51) N__law_refusals (He.glo_ok X G (c.bools.1 _ (glo_fn (i := 38) rfl))) (c.def_ 38 (d := dd "_law_refusals" 51) rfl) (fun fd F => F.bindsN fun _ _ _ _ _ _ us hl => match us, hl with | [_], _ => rfl) (fun fd F => sh_nil) rfl c__law_refusals
theorem d_law (X : Kf.In h) (G : h.Ns mainGlobals mg) (c : SaysU fa fn ex Kf) : ∃ a fd, DfAt Kf mg cf T "law" f_law a fd :=
  df_of (st := top 52) N_law (He.glo_ok X G (c.bools.1 _ (glo_fn (i := 39) rfl))) (c.def_ 39 (d := dd "law" 52) rfl) (fun fd F => F.bindsN fun _ _ _ _ _ _ us hl => match us, hl with | [_], _ => rfl) (fun fd F => sh_nil) rfl c_law
theorem d_law1 (X : Kf.In h) (G : h.Ns mainGlobals mg) (c : SaysU fa fn ex Kf) : ∃ a fd, DfAt Kf mg cf T "law" f_law a fd ∧ ∀ (s : Shared) (us : List Value), us.length = 1 → BindsTo s fd ⟨us, []⟩ ((prms f_law).zip us) :=
  let ⟨fd, F⟩ := c.def_ 39 (d := dd "law" 52) rfl
  ⟨_, fd, df_at (st := top 52) N_law (He.glo_ok X G (c.bools.1 _ (glo_fn (i := 39) rfl))) F (F.bindsN fun _ _ _ _ _ _ us hl => match us, hl with | [_], _ => rfl) sh_nil rfl c_law, fun s us hl => FunD.bindsA (ps := prms f_law) F (fun _ _ _ _ _ _ us hl => match us, hl with | [_], _ => rfl) s us hl⟩
theorem exB (c : SaysU fa fn ex Kf) {k : Nat} (hk : k ∈ rz) : xcB Kf (ca Kf k) (flds k) = true ∧ PySem.W.kitOne Kf (.ref (ca Kf k)) (.type "ValueError") = some (sub k 1000) ∧ ∀ j, j < xcN.length → PySem.W.exmOne Kf (.ref (ca Kf k)) (.ref (ca Kf j)) = some (sub k j) ∧ PySem.W.kitOne Kf (.ref (ca Kf k)) (.ref (ca Kf j)) = some (sub k j) := by
  have e := c.bools.2.2
  unfold ex at e
  have q := List.all_eq_true.mp e k hk
  simp only [Bool.and_eq_true, decide_eq_true_eq, List.all_eq_true, List.mem_range] at q
  exact q
theorem m_InvalidPaper {prog : Program} {w : World} {base : Heap} (c : SaysU fa fn ex Kf) : XMk prog w Kf mg base (ca Kf 4) (flds 4) :=
  let ⟨fd, F⟩ := c.def_ 40 (d := di "InvalidPaper" "InvalidPaper.__init__" 5 0) rfl
  made_of (xcB_ok (exB c (k := 4) (by decide)).1) F (F.bindsN fun _ _ _ _ _ _ us hl => match us, hl with | [_, _, _], _ => rfl) i_InvalidPaper
theorem m_NotUsable {prog : Program} {w : World} {base : Heap} (c : SaysU fa fn ex Kf) : XMk prog w Kf mg base (ca Kf 5) (flds 5) :=
  let ⟨fd, F⟩ := c.def_ 41 (d := di "NotUsable" "NotUsable.__init__" 6 0) rfl
  made_of (xcB_ok (exB c (k := 5) (by decide)).1) F (F.bindsN fun _ _ _ _ _ _ us hl => match us, hl with | [_, _, _], _ => rfl) i_NotUsable
theorem fns (X : Kf.In h) (G : h.Ns mainGlobals mg) (c : SaysU fa fn ex Kf) : ∀ (f : Nat) (x : Str), fnN[f]? = some x → vaN.contains x = false → ∃ a fd, DfAt Kf mg cf T x f a fd
  | 0, _, rfl, _ => d_is_integer X G c
  | 1, _, rfl, _ => d_is_number X G c
  | 2, _, rfl, _ => d_e_is_chord X G c
  | 3, _, rfl, _ => d_e_chord_fault X G c
  | 4, _, rfl, _ => d_lets_cutting X G c
  | 5, _, rfl, _ => d_is_cutting X G c
  | 6, _, rfl, _ => d_e_need_cutting X G c
  | 7, _, rfl, _ => d_e_need_corners X G c
  | 8, _, rfl, _ => d_e_need_number X G c
  | 9, _, rfl, _ => d_e_cutting_of X G c
  | 10, _, rfl, _ => d_e_neighbour_table X G c
  | 11, _, rfl, _ => d_e_price_list X G c
  | 12, _, rfl, _ => d_e_need_corner_below X G c
  | 13, _, rfl, _ => d_fan X G c
  | 14, _, rfl, _ => d_first_chords X G c
  | 15, _, rfl, _ => d_first_joins X G c
  | 16, _, rfl, _ => d_answer_price X G c
  | 17, _, rfl, _ => d_step_joins X G c
  | 18, _, rfl, _ => d_least_first X G c
  | 19, _, rfl, _ => d_over_least X G c
  | 20, _, rfl, _ => d_is_least_always X G c
  | 21, _, rfl, _ => d__law_base X G c
  | 22, _, rfl, _ => d__law_rows X G c
  | 23, _, rfl, _ => d__law_same X G c
  | 24, _, rfl, _ => d__law_all X G c
  | 25, _, rfl, _ => d__law_split X G c
  | 26, _, rfl, _ => d__law_fan X G c
  | 27, _, rfl, _ => d__law_ends X G c
  | 28, _, rfl, _ => d__law_unrolled X G c
  | 29, _, rfl, _ => d__law_rounds X G c
  | 30, _, rfl, _ => d__law_cost X G c
  | 31, _, rfl, _ => d__law_ask X G c
  | 32, _, rfl, _ => d__law_drawn X G c
  | 33, _, rfl, _ => d__law_answers X G c
  | 34, _, rfl, _ => d__law_least X G c
  | 35, _, rfl, _ => d__law_wish X G c
  | 36, _, rfl, _ => d__law_great X G c
  | 37, _, rfl, _ => d__law_typed X G c
  | 38, _, rfl, _ => d__law_refusals X G c
  | 39, _, rfl, _ => d_law X G c
  | n + 40, _, e, _ => by cases e
theorem pr {prog : Program} {w : World} {base : Heap} (X : Kf.In h) (G : h.Ns mainGlobals mg) (c : SaysU fa fn ex Kf) : Pr prog w Kf mg base (Pk Kf) cf T sub where
  xa := rfl
  bi := fun x hx => He.free_ok X G (c.bools.1 _ (free_bi hx))
  xc := fun x k hx => by
    have e := ixOf_get (show ixOf xcN x = some k from hx)
    have q := He.glo_ok X G (c.bools.1 _ (glo_xc e))
    show mg x = some (.ref (He.ga Kf (xcN.getD k Str.empty)))
    rw [getD_of e]; exact q
  rzE := rfl
  made := fun k hk => by
    have hk : k ∈ rz := hk
    unfold rz at hk
    simp only [List.mem_cons, List.not_mem_nil, or_false] at hk
    rcases hk with rfl | rfl
    · exact m_InvalidPaper c
    · exact m_NotUsable c
  subV := fun k hk => (exB c hk).2.1
  sub := fun k hk x j hx => (exB c hk).2.2 j (by
    have e := ixOf_get (show ixOf xcN x = some j from hx)
    exact (List.getElem?_eq_some_iff.mp e).1)
  exc := fun k hk => let z := xcB_ok (exB c hk).1; ⟨z.exc, z.xf, z.no⟩
  fn := fun x f hx => by
    have hx : fnI x = some f := hx
    unfold fnI at hx
    split at hx
    · cases hx
    · rename_i h
      exact fns X G c f x (ixOf_get hx) (Bool.eq_false_iff.mpr h)
  fv := fun x f hx => by
    have hx : fvI x = some f := hx
    unfold fvI at hx
    split at hx
    · rename_i h
      exact absurd h (by simp [vaN])
    · cases hx
end
end K30
open PySem PySem.W PySem.Calls PyProof.Rows
theorem PySem.Challenge.cw_underthree_k30_whole_first_answers_base (D : Nat) (hD : D + 2 ≤ 60) (most : Nat) (hmost : PySem.Challenge.rw_underthree_k30_whole_first_answers.most = some most) (hm2 : most ≤ sizeLine)
    (main : ∀ ns : List Int, ns.length ≤ most → Uq.wC K30.T K30.sub K30.flds D K30.f_law [Uq.lk ns] (fun d => d = .bool true) fun _ _ => False) : PySem.Challenge.rw_underthree_k30_whole_first_answers.Holds := by
  w_on; o_law
  refine HandSHeadRun.head_any (r := OpenLaw.row PySem.Challenge.rw_underthree_k30_whole_first_answers) (q := view (OpenLaw.row PySem.Challenge.rw_underthree_k30_whole_first_answers).prog [52]) (H := K30.hk) (ob := K30.ob) (M := 6000) (loose := K30.loose) (d := HandSHeadRun.topDef (OpenLaw.row PySem.Challenge.rw_underthree_k30_whole_first_answers).prog 52) (kwd := []) K30.ob_eq
    (by kernel_rfl) (fun s => by kernel_rfl) K30.run (by kernel_rfl) (by kernel_rfl) (by kernel_rfl) (by rfl) (by first | assumption | decide +kernel) (by decide +kernel) ⟨rfl, rfl, rfl, rfl, rfl, by decide +kernel⟩ ?hw ?hc
  case hw => w_witness2
  case hc =>
    refine L2.walk_ofE (l := PySem.Challenge.rw_underthree_k30_whole_first_answers) (n := most) (k := D + 2) (x := "_law_script") (CX := L2.CX0) hmost hm2 (by kernel_rfl) (L2.Room.mono (k := 60) ⟨rfl, by decide, by decide⟩ hD) ?F (fun _ _ _ _ z => z)
    intro w mg fa h Y G hmg0
    obtain ⟨Kf, KX, c⟩ := Y
    have hmg : mg ("law" : PySem.Str) = some (.ref fa) := by
      have e : (HandSHeadRun.topDef (OpenLaw.row PySem.Challenge.rw_underthree_k30_whole_first_answers).prog 52).name = ("law" : PySem.Str) := by kernel_rfl
      rw [← e]; exact hmg0
    obtain ⟨a, fd, hat, hb⟩ := K30.d_law1 KX G c
    obtain ⟨_, _, _, _, _, _, g1, _⟩ := id hat.ex
    have ea : a = fa := by rw [hmg] at g1; exact (Value.ref.inj (Option.some.inj g1)).symm
    subst ea
    exact ⟨Kf, fd, Uq.spLaw Kf (K30.Pk Kf) K30.T K30.sub D K30.f_law, KX, fun s u => hb s [u] rfl, fun H b ns hl hO hS => Uq.law_sp (P := K30.Pk Kf) (most := most) main H b ns hl hO hS, fun base hK hG => Uq.law_fn (K30.pr hK hG c) hat rfl rfl D⟩


theorem PySem.Challenge.cw_underthree_k30_whole_first_answers_holds : PySem.Challenge.rw_underthree_k30_whole_first_answers.Holds :=
  PySem.Challenge.cw_underthree_k30_whole_first_answers_base 30 (by decide) 63 rfl (by decide) fun ns hl => K30.P.law_true hl rfl

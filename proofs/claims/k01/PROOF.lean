import PyProof.Rows.All
import Wide.All
import OpenK.AllK
import Wide.FinOn
import KE.DataCmp
import KE.SortData
import HandS.ForMost
import HandS.Wide
import HandS.WideBits
import HandS.Flow
import HandS.Exc
import HandS.ExcInit
import HandS.ExcField
import HandS.ExcIs
import HandS.TryOnly
import HandS.TryMany
import HandS.IsInst
import HandS.Words
import HandS.WordsExc
import HandS.Defaults
import HandS.Deep
import HandS.TupAny
import HandS.RevRange
import HandS.Rev
import HandS.Zip
import HandS.TupSets
import HandS.Style
import KE.GoesEnum
import HandS.Conv
import HandS.SortKw
import KE.DatumOrd
import KE.KExcIs
import KE.KStateDown
import HandS.Head0
import HandS.Head1
import HandS.Head2
import HandS.HeadEnd
import HandS.HeadHook1
import HandS.HeadHook2
import KE.IntBitsLaws
import PySem.Challenge.RW_underthree_k01_kinds_quotients_and_clubs
set_option Elab.async false
set_option linter.all false
set_option maxRecDepth 100000
/-! Uq, part a: the core language and its weakest preconditions. -/
namespace Uq
open PySem

abbrev D := PyData
/-- what is wanted of an exception: its class's number, its fields -/
abbrev Ex := Nat → List D → Prop
abbrev QD := D → Prop

inductive Bo | add | sub | mul | fdiv | mod | pow | shl | shr | band | bor
  deriving DecidableEq
inductive Co | lt | le | gt | ge | eq | ne
  deriving DecidableEq
inductive Bi | len | abs | int | bool | max | min | maxd | sum | tuple | list | sorted | any | all | str | bits | count | index | join | split | sset | lrng1 | lrng2
  deriving DecidableEq
inductive Ty | int | bool | str | tuple | list | dict
  deriving DecidableEq
/-- what is walked: a value; a range (one, two bounds, a step back); enumerate; zip; reversed -/
inductive IK | val | rng1 | rng2 | rng3 | enum | zip | rev
  deriving DecidableEq
/-- a target: a slot; a tuple of slots -/
inductive Tg | nm (i : Nat) | tp (is : List Nat)
  deriving DecidableEq

/-- expressions -/
inductive C where
  | var (i : Nat) | non | bl (b : Bool) | int (i : Int) | str (x : Str)
  | bin (o : Bo) (a b : C) | neg (a : C) | not (a : C) | and (a b : C) | or (a b : C)
  | cmp (o : Co) (a b : C) | chn (o o' : Co) (a b c : C)
  | isN (n : Bool) (a : C) | isB (n b : Bool) (a : C) | mem (n : Bool) (a b : C)
  | ite (c a b : C) | tup (es : List C) | lst (es : List C)
  | ix (a b : C) | sl (a lo hi : C) | rev (a : C)
  | call (f : Nat) (pm : List Nat) (es : List C) | callv (f : Nat) (es : List C) | bi (f : Bi) (es : List C)
  | isi (a : C) (ts : List Ty)
  | lc (e : C) (t : Tg) (k : IK) (es : List C) (cd : List C)
  | xf (i : Nat) (f : Str) | xis (i : Nat) (c : Nat)

/-- statements -/
inductive S where
  | asg (i : Nat) (e : C) | unp (is : List Nat) (e : C) | par (i j : Nat) (a b : C)
  | put (i : Nat) (a e : C) | app (i : Nat) (e : C) | ext (i : Nat) (e : C) | pop (i : Nat) | popA (i : Nat) (a : C) | popTo (j i : Nat)
  | aug (i : Nat) (o : Bo) (e : C)
  | exp (e : C) | ret (e : C) | retN
  | ite (c : C) (a b : List S)
  | fr (t : Tg) (k : IK) (es : List C) (body : List S)
  | wh (c : C) (body : List S)
  | brk | cnt | pas
  | rai (c : Nat) (es : List C)
  | tri (body : List S) (hc : List Nat) (hv : List (Option Nat)) (hb : List (List S))
  | kil (is : List Nat)
  | nnew (i : Nat) | napp (i : Nat) | nadd (i : Nat) (a e : C)

/-- a slot's content: nothing known, a value, a list that this slot alone holds, a caught exception -/
inductive Sl where
  | no | va (d : D) | ol (ds : List D) | xc (c : Nat) (fs : List D) | nl (dss : List (List D))
abbrev Env := List Sl

def Sl.val? : Sl → Option D
  | .va d => some d
  | .ol ds => some (.list ds)
  | .nl dss => some (.list (dss.map .list))
  | _ => none
def Sl.frz : Sl → Sl
  | .ol ds => .va (.list ds)
  | .nl dss => .va (.list (dss.map .list))
  | s => s
/-! no list within -/
mutual
def noL : D → Bool
  | .list _ => false
  | .dict _ => false
  | .tuple ds => noLs ds
  | _ => true
def noLs : List D → Bool
  | [] => true
  | d :: ds => noL d && noLs ds
end
def frzL : List Nat → Env → Env
  | [], ρ => ρ
  | i :: is, ρ => frzL is (ρ.modify i Sl.frz)

def tgI : Tg → List Nat
  | .nm i => [i]
  | .tp is => is
mutual
def nms : C → List Nat
  | .var i => [i]
  | .bin _ a b => nms a ++ nms b
  | .neg a => nms a
  | .not a => nms a
  | .and a b => nms a ++ nms b
  | .or a b => nms a ++ nms b
  | .cmp _ a b => nms a ++ nms b
  | .chn _ _ a b c => nms a ++ (nms b ++ nms c)
  | .isN _ a => nms a
  | .isB _ _ a => nms a
  | .mem _ a b => nms a ++ nms b
  | .ite c a b => nms c ++ (nms a ++ nms b)
  | .tup es => nmsL es
  | .lst es => nmsL es
  | .ix a b => nms a ++ nms b
  | .sl a b c => nms a ++ (nms b ++ nms c)
  | .rev a => nms a
  | .call _ _ es => nmsL es
  | .callv _ es => nmsL es
  | .bi _ es => nmsL es
  | .isi a _ => nms a
  | .lc e t _ es cd => nms e ++ (nmsL es ++ (nmsL cd ++ tgI t))
  | .xf i _ => [i]
  | .xis i _ => [i]
  | _ => []
def nmsL : List C → List Nat
  | [] => []
  | c :: cs => nms c ++ nmsL cs
end

/-- does it, if it gives a list, give a new one -/
def fresh : C → Bool
  | .lst _ => true
  | .lc .. => true
  | .sl .. => true
  | .rev _ => true
  | .bin .add _ _ => true
  | .bin .mul _ _ => true
  | .bi .list _ => true
  | .bi .sorted _ => true
  | .bi .sset _ => true
  | .bi .lrng1 _ => true
  | .bi .lrng2 _ => true
  | .bi .split _ => true
  | .ite _ a b => fresh a && fresh b
  | _ => false

/-- behind the value d of e: the lists that d may share are no longer any slot's own -/
def shr (e : C) (d : D) (ρ : Env) : Env :=
  match fresh e, d with
  | true, .list ds => if noLs ds then ρ else frzL (nms e) ρ
  | _, _ => if noL d then ρ else frzL (nms e) ρ
def asgn (e : C) (i : Nat) (d : D) (ρ : Env) : Env :=
  match fresh e, d with
  | true, .list ds => (shr e d ρ).set i (.ol ds)
  | _, _ => (shr e d ρ).set i (.va d)

/-! ### values -/
def truR (d : D) (Q : Bool → Prop) : Prop :=
  match d with
  | .none => Q false
  | .bool b => Q b
  | .int i => Q (i != 0)
  | .str x => x.length ≤ sizeLine ∧ Q (x.length != 0)
  | .list ds => Q (!ds.isEmpty)
  | .tuple ds => Q (!ds.isEmpty)
  | .dict _ => False
def MulOk (i j : Int) : Prop := (-(2 ^ 64) < i ∧ i < 2 ^ 64) ∨ (-(2 ^ 64) < j ∧ j < 2 ^ 64) ∨ (i.natAbs.log2 + j.natAbs.log2 < 1000000)
def binR (o : Bo) (x y : D) (Q : QD) : Prop :=
  match o, x, y with
  | .add, .int i, .int j => Q (.int (i + j))
  | .add, .str a, .str b => a.length + b.length ≤ sizeLine ∧ Q (.str (a ++ b))
  | .add, .list a, .list b => a.length + b.length ≤ sizeLine ∧ Q (.list (a ++ b))
  | .add, .tuple a, .tuple b => a.length + b.length ≤ sizeLine ∧ Q (.tuple (a ++ b))
  | .sub, .int i, .int j => Q (.int (i - j))
  | .mul, .int i, .int j => MulOk i j ∧ Q (.int (i * j))
  | .mul, .list a, .int j => (-(2 ^ 63) ≤ j ∧ j < 2 ^ 63 ∧ a.length * j.toNat ≤ sizeLine) ∧ Q (.list (List.replicate j.toNat a).flatten)
  | .fdiv, .int i, .int j => (j ≠ 0 ∧ j.natAbs.log2 < 9000) ∧ Q (.int (i.fdiv j))
  | .mod, .int i, .int j => j ≠ 0 ∧ Q (.int (i.fmod j))
  | .pow, .int i, .int j => (0 ≤ j ∧ j ≤ 1000000 ∧ i.natAbs < 2 ^ 64) ∧ Q (.int (i ^ j.toNat))
  | .shl, .int i, .int j => (0 ≤ j ∧ j ≤ 1000000 ∧ i.natAbs < 2 ^ 64) ∧ Q (.int (i * 2 ^ j.toNat))
  | .shr, .int i, .int j => 0 ≤ j ∧ Q (.int (i / 2 ^ j.toNat))
  | .band, .int i, .int j => Q (.int (Builtin.bitAnd i j))
  | .bor, .int i, .int j => Q (.int (Builtin.bitOr i j))
  | _, _, _ => False
def LtOk (x y : D) : Prop := (W.alike x y = true ∧ x ≠ .none) ∧ SeqAt.shaped x = true ∧ SeqAt.shaped y = true
def EqOk (x y : D) : Prop := SeqAt.shaped x = true ∧ SeqAt.shaped y = true
def cmpR (o : Co) (x y : D) (Q : QD) : Prop :=
  match o, x, y with
  | .lt, .int i, .int j => Q (.bool (decide (i < j)))
  | .le, .int i, .int j => Q (.bool (decide (i ≤ j)))
  | .gt, .int i, .int j => Q (.bool (decide (j < i)))
  | .ge, .int i, .int j => Q (.bool (decide (j ≤ i)))
  | .eq, .int i, .int j => Q (.bool (decide (i = j)))
  | .ne, .int i, .int j => Q (.bool (!decide (i = j)))
  | .eq, .str i, .str j => Q (.bool (decide (i = j)))
  | .ne, .str i, .str j => Q (.bool (!decide (i = j)))
  | .eq, x, y => EqOk x y ∧ Q (.bool (PyData.eqv x y))
  | .ne, x, y => EqOk x y ∧ Q (.bool (!PyData.eqv x y))
  | .lt, x, y => LtOk x y ∧ Q (.bool (W.dataLt x y))
  | .gt, x, y => LtOk x y ∧ Q (.bool (W.dataLt y x))
  | .le, x, y => LtOk x y ∧ Q (.bool (!W.dataLt y x))
  | .ge, x, y => LtOk x y ∧ Q (.bool (!W.dataLt x y))
def signAt (x : Str) (k : Nat) : Str := ⟨#[x.cps.toList.getD k 0]⟩
def ixR (x i : D) (Q : QD) : Prop :=
  match x, i with
  | .list ds, .int j => ∃ d, L2.atI ds j = some d ∧ Q d
  | .tuple ds, .int j => ∃ d, L2.atI ds j = some d ∧ Q d
  | .dict kvs, .int j => ∃ d, L2.atI (kvs.map (·.2)) j = some d ∧ Q d
  | _, _ => False
def isNonC : C → Bool
  | .non => true
  | _ => false
/-- a part of a slice that may be left out -/
def wOpt (n : Bool) (w : QD → Prop) (k : Option Int → Prop) : Prop := if n = true then k none else w fun d => match d with
  | .int i => k (some i)
  | _ => False
/-- a slice -/
def cut (xs : List D) (lo hi : Option Int) : List D := (xs.drop (HT.sIx xs.length 0 lo)).take (HT.sIx xs.length xs.length hi - HT.sIx xs.length 0 lo)
def slR (x : D) (lo hi : Option Int) (Q : QD) : Prop :=
  match x with
  | .list ds => Q (.list (cut ds lo hi))
  | .tuple ds => Q (.tuple (cut ds lo hi))
  | _ => False
def revR (x : D) (Q : QD) : Prop :=
  match x with
  | .list ds => Q (.list ds.reverse)
  | .tuple ds => Q (.tuple ds.reverse)
  | _ => False
def isTy : Ty → D → Bool
  | .int, .int _ => true
  | .int, .bool _ => true
  | .bool, .bool _ => true
  | .str, .str _ => true
  | .tuple, .tuple _ => true
  | .list, .list _ => true
  | _, _ => false
def isNon : D → Bool
  | .none => true
  | _ => false
def isBv (b : Bool) : D → Bool
  | .bool c => c == b
  | _ => false
def opq : D → Bool
  | .dict _ => true
  | _ => false
/-- the script: a list that is only read -/
def lk (ns : List Int) : D := .dict (ns.map fun n => (.none, .int n))
def memR (x s : D) (Q : Bool → Prop) : Prop :=
  match x, s with
  | x, .list ds => (SeqAt.shaped x = true ∧ SeqAt.shaped (.list ds) = true) ∧ Q (ds.any fun d => PyData.eqv d x)
  | x, .tuple ds => (SeqAt.shaped x = true ∧ SeqAt.shaped (.tuple ds) = true) ∧ Q (ds.any fun d => PyData.eqv d x)
  | .str a, .str b => Q (!(Builtin.Str.occurrences b a 0 b.length 1).isEmpty)
  | _, _ => False
def ints? : List D → Option (List Int)
  | [] => some []
  | .int i :: ds => (ints? ds).map (i :: ·)
  | _ => none
def bools? : List D → Option (List Bool)
  | [] => some []
  | .bool i :: ds => (bools? ds).map (i :: ·)
  | _ => none
def upto (lo : Int) : Nat → List D
  | 0 => []
  | n + 1 => .int lo :: upto (lo + 1) n
def down (hi : Int) : Nat → List D
  | 0 => []
  | n + 1 => .int hi :: down (hi - 1) n
def enumF (i : Int) : List D → List D
  | [] => []
  | d :: ds => .tuple [.int i, d] :: enumF (i + 1) ds
def zipD : List D → List D → List D
  | a :: as, b :: bs => .tuple [a, b] :: zipD as bs
  | _, _ => []
def seq? : D → Option (List D)
  | .list ds => some ds
  | .tuple ds => some ds
  | _ => none
def itR (k : IK) (vs : List D) (Q : List D → Prop) : Prop :=
  match k, vs with
  | .val, [.list ds] => Q ds
  | .val, [.tuple ds] => Q ds
  | .val, [.dict kvs] => Q (kvs.map (·.2))
  | .rng1, [.int j] => (-(2 ^ 62) ≤ j ∧ j < 2 ^ 62) ∧ Q (upto 0 j.toNat)
  | .rng2, [.int i, .int j] => (-(2 ^ 62) ≤ i ∧ i < 2 ^ 62 ∧ -(2 ^ 62) ≤ j ∧ j < 2 ^ 62) ∧ Q (upto i (j - i).toNat)
  | .enum, [.list ds] => Q (enumF 0 ds)
  | .enum, [.tuple ds] => Q (enumF 0 ds)
  | _, _ => False
/-- a tuple of ints -/
def rowD (r : List Int) : D := .tuple (r.map PyData.int)
def biR (f : Bi) (vs : List D) (Q : QD) : Prop :=
  match f, vs with
  | .len, [.list ds] => Q (.int ds.length)
  | .len, [.tuple ds] => Q (.int ds.length)
  | .len, [.dict kvs] => Q (.int kvs.length)
  | .len, [.str x] => x.length ≤ sizeLine ∧ Q (.int x.length)
  | .abs, [.int i] => Q (.int (if i < 0 then -i else i))
  | .int, [.int i] => Q (.int i)
  | .int, [.bool b] => Q (.int (if b then 1 else 0))
  | .bool, [.int i] => Q (.bool (i != 0))
  | .bool, [.bool b] => Q (.bool b)
  | .max, [.int i, .int j] => Q (.int (if j > i then j else i))
  | .min, [.int i, .int j] => Q (.int (if j < i then j else i))
  | .max, [.list ds] => ∃ ns, ints? ds = some ns ∧ 0 < ns.length ∧ ∀ m, m ∈ ns → (∀ y, y ∈ ns → y ≤ m) → Q (.int m)
  | .min, [.list ds] => ∃ ns, ints? ds = some ns ∧ 0 < ns.length ∧ ∀ m, m ∈ ns → (∀ y, y ∈ ns → m ≤ y) → Q (.int m)
  | .tuple, [.list ds] => Q (.tuple ds)
  | .tuple, [.tuple ds] => Q (.tuple ds)
  | .list, [.list ds] => Q (.list ds)
  | .list, [.tuple ds] => Q (.list ds)
  | .any, [.list ds] => ∃ bs, bools? ds = some bs ∧ Q (.bool (bs.any id))
  | .all, [.list ds] => ∃ bs, bools? ds = some bs ∧ Q (.bool (bs.all id))
  | .sum, [.list ds] => ∃ ns, ints? ds = some ns ∧ Q (.int ns.sum)
  | .sorted, [.list ds] => (W.AllAlike ds ∧ W.Sortable ds ∧ ∀ d ∈ ds, SeqAt.shaped d = true) ∧ Q (.list (ds.mergeSort (W.dataLe false id)))
  | .sorted, [.tuple ds] => (W.AllAlike ds ∧ W.Sortable ds ∧ ∀ d ∈ ds, SeqAt.shaped d = true) ∧ Q (.list (ds.mergeSort (W.dataLe false id)))
  | .bits, [.int i] => Q (.int (Builtin.Int.intBits i))
  | .lrng1, [.int j] => (-(2 ^ 62) ≤ j ∧ j < 2 ^ 62 ∧ j.toNat ≤ sizeLine) ∧ Q (.list (upto 0 j.toNat))
  | .lrng2, [.int i, .int j] => (-(2 ^ 62) ≤ i ∧ i < 2 ^ 62 ∧ -(2 ^ 62) ≤ j ∧ j < 2 ^ 62 ∧ (j - i).toNat ≤ 2 ^ 24) ∧ Q (.list (upto i (j - i).toNat))
  | .maxd, [.list ds, .int d] => ∃ ns, ints? ds = some ns ∧ (ns = [] → Q (.int d)) ∧ ∀ m, m ∈ ns → (∀ y, y ∈ ns → y ≤ m) → Q (.int m)
  | .sset, [.list ds] => ∃ (rows : List (List Int)) (k : Nat) (B : Int), ds = rows.map rowD ∧ rows.length < 64 ∧ 1 ≤ k ∧ (∀ r ∈ rows, r.length = k ∧ TS.Bd B r) ∧
      ∀ out : List (List Int), out.Nodup → (∀ r, r ∈ out ↔ r ∈ rows) → out.Pairwise (fun q r => TS.code B q ≤ TS.code B r) → Q (.list (out.map rowD))
  | .sset, [.tuple ds] => ∃ (rows : List (List Int)) (k : Nat) (B : Int), ds = rows.map rowD ∧ rows.length < 64 ∧ 1 ≤ k ∧ (∀ r ∈ rows, r.length = k ∧ TS.Bd B r) ∧
      ∀ out : List (List Int), out.Nodup → (∀ r, r ∈ out ↔ r ∈ rows) → out.Pairwise (fun q r => TS.code B q ≤ TS.code B r) → Q (.list (out.map rowD))
  | _, _ => False

/-- the values in the parameters' order -/
def pmL (pm : List Nat) (vs : List D) : List D :=
  match pm with
  | [] => vs
  | _ => pm.map fun j => vs.getD j .none

/-! ### the weakest preconditions -/
structure Cl where
  call : Nat → List D → QD → Ex → Prop
  sub : Nat → Nat → Bool
  flds : Nat → List Str

def setL : List Nat → List D → Env → Option Env
  | [], [], ρ => some ρ
  | i :: is, d :: ds, ρ => setL is ds (ρ.set i (.va d))
  | _, _, _ => none
def tgR (t : Tg) (d : D) (ρ : Env) (Q : Env → Prop) : Prop :=
  match t with
  | .nm i => Q (ρ.set i (.va d))
  | .tp is => match d with
    | .tuple ds => match setL is ds ρ with
      | some ρ' => Q ρ'
      | none => False
    | _ => False
def kil : List Nat → Env → Env
  | [], ρ => ρ
  | i :: is, ρ => kil is (ρ.set i .no)
/-- what is shared by walking -/
def frzIt (k : IK) (es : List C) (ρ : Env) : Env :=
  match k with
  | .rng1 => ρ
  | .rng2 => ρ
  | .rng3 => ρ
  | _ => frzL (nmsL es) ρ
/-- a comprehension's turns -/
def lcW (tst : Env → (Bool → Prop) → Prop) (el : Env → QD → Prop) (t : Tg) (ρ : Env) : List D → List D → QD → Prop
  | [], acc, Q => Q (.list acc)
  | d :: ds, acc, Q => tgR t d ρ fun ρ' => tst ρ' fun b => if b = true then el ρ' (fun v => acc.length < sizeLine ∧ lcW tst el t ρ ds (acc ++ [v]) Q) else lcW tst el t ρ ds acc Q

mutual
def wE (X : Cl) : C → Env → QD → Ex → Prop
  | .var i, ρ, Q, _ => match ρ[i]? with
    | some (.va d) => Q d
    | some (.ol ds) => Q (.list ds)
    | some (.nl dss) => Q (.list (dss.map .list))
    | _ => False
  | .non, _, Q, _ => Q .none
  | .bl b, _, Q, _ => Q (.bool b)
  | .int i, _, Q, _ => Q (.int i)
  | .str x, _, Q, _ => Q (.str x)
  | .bin o a b, ρ, Q, E => wE X a ρ (fun x => wE X b ρ (fun y => binR o x y Q) E) E
  | .neg a, ρ, Q, E => wE X a ρ (fun x => match x with
    | .int i => Q (.int (-i))
    | _ => False) E
  | .not a, ρ, Q, E => wE X a ρ (fun x => truR x fun t => Q (.bool (!t))) E
  | .and a b, ρ, Q, E => wE X a ρ (fun x => truR x fun t => if t = true then wE X b ρ Q E else Q x) E
  | .or a b, ρ, Q, E => wE X a ρ (fun x => truR x fun t => if t = true then Q x else wE X b ρ Q E) E
  | .cmp o a b, ρ, Q, E => wE X a ρ (fun x => wE X b ρ (fun y => cmpR o x y Q) E) E
  | .chn o o' a b c, ρ, Q, E => wE X a ρ (fun x => wE X b ρ (fun y => cmpR o x y fun z => match z with
    | .bool k => if k = true then wE X c ρ (fun u => cmpR o' y u Q) E else Q (.bool false)
    | _ => False) E) E
  | .isN n a, ρ, Q, E => wE X a ρ (fun x => Q (.bool (isNon x != n))) E
  | .isB n b a, ρ, Q, E => wE X a ρ (fun x => Q (.bool (isBv b x != n))) E
  | .mem n a b, ρ, Q, E => wE X a ρ (fun x => wE X b ρ (fun y => memR x y fun k => Q (.bool (k != n))) E) E
  | .ite c a b, ρ, Q, E => wE X c ρ (fun x => truR x fun t => if t = true then wE X a ρ Q E else wE X b ρ Q E) E
  | .tup es, ρ, Q, E => wEs X es ρ (fun vs => Q (.tuple vs)) E
  | .lst es, ρ, Q, E => wEs X es ρ (fun vs => Q (.list vs)) E
  | .ix a b, ρ, Q, E => wE X a ρ (fun x => wE X b ρ (fun y => ixR x y Q) E) E
  | .sl a b c, ρ, Q, E => wE X a ρ (fun x => wOpt (isNonC b) (fun k => wE X b ρ k E) fun lo => wOpt (isNonC c) (fun k => wE X c ρ k E) fun hi => slR x lo hi Q) E
  | .rev a, ρ, Q, E => wE X a ρ (fun x => revR x Q) E
  | .call f pm es, ρ, Q, E => wEs X es ρ (fun vs => X.call f (pmL pm vs) Q E) E
  | .callv f es, ρ, Q, E => wEs X es ρ (fun vs => X.call f [.tuple vs] Q E) E
  | .bi f es, ρ, Q, E => wEs X es ρ (fun vs => biR f vs Q) E
  | .isi a ts, ρ, Q, E => wE X a ρ (fun x => opq x = false ∧ Q (.bool (ts.any fun t => isTy t x))) E
  | .lc e t k es cd, ρ, Q, E => wEs X es ρ (fun vs => itR k vs fun ds => lcW (fun ρ' q => wTs X cd ρ' q) (fun ρ' q => wE X e ρ' q fun _ _ => False) t (kil (tgI t) (frzIt k es ρ)) ds [] Q) E
  | .xf i f, ρ, Q, _ => match ρ[i]? with
    | some (.xc c fs) => ∃ d, ((X.flds c).zip fs).reverse.lookup f = some d ∧ Q d
    | _ => False
  | .xis i c, ρ, Q, _ => match ρ[i]? with
    | some (.xc c' _) => Q (.bool (X.sub c' c))
    | _ => False
def wEs (X : Cl) : List C → Env → (List D → Prop) → Ex → Prop
  | [], _, Q, _ => Q []
  | c :: cs, ρ, Q, E => wE X c ρ (fun v => wEs X cs ρ (fun vs => Q (v :: vs)) E) E
def wTs (X : Cl) : List C → Env → (Bool → Prop) → Prop
  | [], _, Q => Q true
  | c :: cs, ρ, Q => wE X c ρ (fun d => truR d fun t => if t = true then wTs X cs ρ Q else Q false) fun _ _ => False
end
/-- a test -/
abbrev wT (X : Cl) (c : C) (ρ : Env) (Q : Bool → Prop) (E : Ex) : Prop := wE X c ρ (fun d => truR d Q) E

structure K where
  nx : Env → Prop
  rt : QD
  bk : Env → Prop
  ct : Env → Prop
  ex : Nat → List D → Env → Prop
/-- a for's turns -/
def frW (body : Env → K → Prop) (t : Tg) (k : K) : List D → Env → Prop
  | [], ρ => k.nx ρ
  | d :: ds, ρ => tgR t d ρ fun ρ' => body ρ' { k with nx := frW body t k ds, ct := frW body t k ds, bk := k.nx }
/-- a while's turns, n at most -/
def whW (tst : Env → (Bool → Prop) → (Nat → List D → Env → Prop) → Prop) (body : Env → K → Prop) (k : K) : Nat → Env → Prop
  | 0, _ => False
  | n + 1, ρ => tst ρ (fun b => if b = true then body ρ { k with nx := whW tst body k n, ct := whW tst body k n, bk := k.nx } else k.nx ρ) k.ex
mutual
def wS (X : Cl) : S → Env → K → Prop
  | .asg i e, ρ, k => wE X e ρ (fun d => k.nx (asgn e i d ρ)) fun c fs => k.ex c fs ρ
  | .unp is e, ρ, k => wE X e ρ (fun d => match d with
    | .tuple ds => match setL is ds (shr e d ρ) with
      | some ρ' => k.nx ρ'
      | none => False
    | _ => False) fun c fs => k.ex c fs ρ
  | .par i j a b, ρ, k => wE X a ρ (fun x => wE X b ρ (fun y => k.nx (((frzL (nms a ++ nms b) ρ).set i (.va x)).set j (.va y))) fun c fs => k.ex c fs ρ) fun c fs => k.ex c fs ρ
  | .put i a e, ρ, k => wE X e ρ (fun d => match (shr e d ρ)[i]? with
    | some (.ol ds) => wE X a (shr e d ρ) (fun y => match y with
      | .int j => ∃ n, L2.ixN ds.length j = some n ∧ k.nx ((shr e d ρ).set i (.ol (ds.set n d)))
      | _ => False) fun c fs => k.ex c fs (shr e d ρ)
    | _ => False) fun c fs => k.ex c fs ρ
  | .app i e, ρ, k => (∃ ds, ρ[i]? = some (.ol ds)) ∧ wE X e ρ (fun d => match (shr e d ρ)[i]? with
    | some (.ol ds) => ds.length < sizeLine ∧ k.nx ((shr e d ρ).set i (.ol (ds ++ [d])))
    | _ => False) fun c fs => k.ex c fs ρ
  | .ext i e, ρ, k => (∃ ds, ρ[i]? = some (.ol ds)) ∧ wE X e ρ (fun d => match d, (shr e d ρ)[i]? with
    | .list es, some (.ol ds) => ds.length + es.length ≤ sizeLine ∧ k.nx ((shr e d ρ).set i (.ol (ds ++ es)))
    | _, _ => False) fun c fs => k.ex c fs ρ
  | .pop i, ρ, k => match ρ[i]? with
    | some (.ol ds) => ds ≠ [] ∧ k.nx (ρ.set i (.ol ds.dropLast))
    | _ => False
  | .popA i a, ρ, k => match ρ[i]? with
    | some (.ol ds) => wE X a ρ (fun y => match y with
      | .int j => ∃ n, L2.ixN ds.length j = some n ∧ ds.length ≤ sizeLine ∧ k.nx (ρ.set i (.ol (ds.eraseIdx n)))
      | _ => False) fun c fs => k.ex c fs ρ
    | _ => False
  | .popTo j i, ρ, k => match ρ[i]? with
    | some (.ol ds) => ∃ d, ds.getLast? = some d ∧ k.nx ((ρ.set i (.ol ds.dropLast)).set j (.va d))
    | _ => False
  | .aug i o e, ρ, k => match ρ[i]? with
    | some (.va x) => wE X e ρ (fun y => match x, y with
      | .int a, .int b => binR o x y fun z => k.nx (ρ.set i (.va z))
      | _, _ => False) fun c fs => k.ex c fs ρ
    | _ => False
  | .exp e, ρ, k => wE X e ρ (fun _ => k.nx ρ) fun c fs => k.ex c fs ρ
  | .ret e, ρ, k => wE X e ρ k.rt fun c fs => k.ex c fs ρ
  | .retN, _, k => k.rt .none
  | .ite c a b, ρ, k => wT X c ρ (fun t => if t = true then wSs X a ρ k else wSs X b ρ k) fun c fs => k.ex c fs ρ
  | .fr t ik es body, ρ, k => wEs X es ρ (fun vs => itR ik vs fun ds => frW (wSs X body) t k ds (frzIt ik es ρ)) fun c fs => k.ex c fs ρ
  | .wh c body, ρ, k => ∃ n, whW (fun ρ q e => wT X c ρ q fun c fs => e c fs ρ) (wSs X body) k n ρ
  | .brk, ρ, k => k.bk ρ
  | .cnt, ρ, k => k.ct ρ
  | .pas, ρ, k => k.nx ρ
  | .rai c es, ρ, k => wEs X es ρ (fun vs => noLs vs = true ∧ vs.length = (X.flds c).length ∧ k.ex c vs ρ) fun c fs => k.ex c fs ρ
  | .tri body hc hv hb, ρ, k => wSs X body ρ { k with ex := fun c fs ρ' => wHs X hc hv hb c fs ρ' k }
  | .kil is, ρ, k => k.nx (kil is ρ)
  | .nnew i, ρ, k => k.nx (ρ.set i (.nl []))
  | .napp i, ρ, k => match ρ[i]? with
    | some (.nl dss) => dss.length < sizeLine ∧ k.nx (ρ.set i (.nl (dss ++ [[]])))
    | _ => False
  | .nadd i a e, ρ, k => match ρ[i]? with
    | some (.nl dss) => wE X a ρ (fun y => match y with
      | .int j => ∃ n ds, L2.ixN dss.length j = some n ∧ dss[n]? = some ds ∧ ds.length < sizeLine ∧ wE X e ρ (fun d => noL d = true ∧ k.nx (ρ.set i (.nl (dss.set n (ds ++ [d]))))) fun c fs => k.ex c fs ρ
      | _ => False) fun c fs => k.ex c fs ρ
    | _ => False
def wSs (X : Cl) : List S → Env → K → Prop
  | [], ρ, k => k.nx ρ
  | s :: ss, ρ, k => wS X s ρ { k with nx := fun ρ' => wSs X ss ρ' k }
def wHs (X : Cl) (hc : List Nat) (hv : List (Option Nat)) : List (List S) → Nat → List D → Env → K → Prop
  | [], c, fs, ρ, k => k.ex c fs ρ
  | b :: bs, c, fs, ρ, k => match hc, hv with
    | h :: hc', v :: hv' => if X.sub c h = true then (match v with
      | some v => wSs X b (ρ.set v (.xc c fs)) { nx := fun ρ' => k.nx (ρ'.set v .no), rt := k.rt, bk := fun ρ' => k.bk (ρ'.set v .no), ct := fun ρ' => k.ct (ρ'.set v .no), ex := fun _ _ _ => False }
      | none => wSs X b ρ { k with ex := fun _ _ _ => False })
      else wHs X hc' hv' bs c fs ρ k
    | _, _ => False
end

/-- a function: its parameters, its slots, its body -/
structure Fn where
  np : Nat
  ns : Nat
  body : List S
def start (f : Fn) (vs : List D) : Env := vs.map Sl.va ++ List.replicate (f.ns - f.np) Sl.no
/-- the program's functions, to a depth of calls -/
def wC (T : Nat → Option Fn) (sub : Nat → Nat → Bool) (flds : Nat → List Str) : Nat → Nat → List D → QD → Ex → Prop
  | 0, _, _, _, _ => False
  | n + 1, f, vs, Q, E => match T f with
    | some fn => vs.length = fn.np ∧ wSs ⟨wC T sub flds n, sub, flds⟩ fn.body (start fn vs) ⟨fun _ => Q .none, Q, fun _ => False, fun _ => False, fun c fs _ => E c fs⟩
    | none => False
end Uq

/-! Uq, part b: does a core term stand for an expression, a statement of the program. -/
namespace Uq
open PySem

/-- what a text's names mean: N the slots' names; functions by name, their parameters; exception classes by name; the shapes of calls by keywords -/
structure Cf where
  N : List Str
  fnI : Str → Option Nat
  prm : Nat → List Str
  xcI : Str → Option Nat
  shp : Nat → List (Nat × List Str)
  rz : List Nat
  fvI : Str → Option Nat := fun _ => none

def isL (sc : Scope) (x : Str) : Bool := match sc.names.lookup x with
  | some .local => true
  | some .cell => true
  | some .free => true
  | _ => false
def isSt (sc : Scope) (x : Str) : Bool := match sc.names.lookup x with
  | some .local => true
  | some .cell => true
  | _ => false
def isG (sc : Scope) (x : Str) : Bool := match sc.names.lookup x with
  | some .globalImplicit => true
  | _ => false
def opB : Bo → Operator → Bool
  | .add, .Add => true
  | .sub, .Sub => true
  | .mul, .Mult => true
  | .fdiv, .FloorDiv => true
  | .mod, .Mod => true
  | .pow, .Pow => true
  | .shl, .LShift => true
  | .shr, .RShift => true
  | .band, .BitAnd => true
  | .bor, .BitOr => true
  | _, _ => false
def opC : Co → CmpOp → Bool
  | .lt, .Lt => true
  | .le, .LtE => true
  | .gt, .Gt => true
  | .ge, .GtE => true
  | .eq, .Eq => true
  | .ne, .NotEq => true
  | _, _ => false
/-- a built-in's name -/
def biN : Bi → Option Str
  | .len => some "len"
  | .abs => some "abs"
  | .int => some "int"
  | .bool => some "bool"
  | .max => some "max"
  | .min => some "min"
  | .sum => some "sum"
  | .tuple => some "tuple"
  | .list => some "list"
  | .sorted => some "sorted"
  | .any => some "any"
  | .all => some "all"
  | .str => some "str"
  | _ => none
def tyN : Ty → Str
  | .int => "int"
  | .bool => "bool"
  | .str => "str"
  | .tuple => "tuple"
  | .list => "list"
  | .dict => "dict"
def ikN : IK → Option (Str × Nat)
  | .rng1 => some ("range", 1)
  | .rng2 => some ("range", 2)
  | .enum => some ("enumerate", 1)
  | _ => none
def nameIs (e : Expr) (x : Str) : Bool := match e with
  | .Name y _ => decide (y = x)
  | _ => false
def chkTys (sc : Scope) : List Ty → List Expr → Bool
  | [], [] => true
  | t :: ts, e :: es => nameIs e (tyN t) && isG sc (tyN t) && chkTys sc ts es
  | _, _ => false
/-- the values' places, in the parameters' order -/
def pmOf (ps : List Str) (n : Nat) (ks : List Str) : List Nat := (List.range ps.length).map fun j => if j < n then j else n + ks.idxOf (ps.getD j Str.empty)
def kwNames (kws : List Keyword) : List Str := kws.map fun k => k.arg.getD Str.empty
def tgNames (t : Tg) (e : Expr) : List (Str × Nat) :=
  match t, e with
  | .nm i, .Name x _ => [(x, i)]
  | .tp is, .Tuple es _ _ => (es.zip is).map fun p => match p.1 with
    | .Name x _ => (x, p.2)
    | _ => (Str.empty, p.2)
  | _, _ => []
def chkNm (cf : Cf) (osc : Scope) (i : Nat) (e : Expr) : Bool := match e with
  | .Name x _ => decide (cf.N[i]? = some x) && isSt osc x
  | _ => false
def chkNms (cf : Cf) (osc : Scope) : List Nat → List Expr → Bool
  | [], [] => true
  | i :: is, e :: es => chkNm cf osc i e && chkNms cf osc is es
  | _, _ => false
/-- osc: the written scope (where names are stored) -/
def chkTg (cf : Cf) (osc : Scope) (t : Tg) (e : Expr) : Bool :=
  match t, e with
  | .nm i, e => chkNm cf osc i e
  | .tp is, .Tuple es _ _ => chkNms cf osc is es && decide (2 ≤ is.length) && decide (is.length ≤ 20)
  | _, _ => false

/-- no set display, no star, no slice -/
def okE : Expr → Bool
  | .Set .. => false
  | .Starred .. => false
  | .Slice .. => false
  | _ => true
theorem okE_marks {e : Expr} {op : CmpOp} (h : okE e = true) : behindInMarks op e = false := by cases e <;> first | rfl | cases h
theorem okE_star {e : Expr} {es : List Expr} {env : PySem.Env} (h : okE e = true) : starEach (e :: es) env = (false, eval e env) :: starEach es env := by cases e <;> first | rfl | cases h
theorem okE_ix {e : Expr} (h : okE e = true) : L2.PlainIx e := fun _ _ => by cases e <;> first | rfl | cases h
theorem okE_fold {e : Expr} {env : PySem.Env} (h : okE e = true) : ∀ x, foldedSetIterable e env x = pure x := fun _ => by cases e <;> first | rfl | cases h

/-! the forms, one by one: ka, kb .. look at the parts -/
section
variable (cf : Cf) (sc : Scope)
def mVar (i : Nat) (e : Expr) : Bool := match e with
  | .Name x _ => decide (cf.N[i]? = some x) && isL sc x && !decide (x = "__debug__") && !decide (x = "__classdict__")
  | _ => false
def mNon (e : Expr) : Bool := match e with
  | .Constant .none _ _ => true
  | _ => false
def mBl (b : Bool) (e : Expr) : Bool := match e with
  | .Constant (.bool c) _ _ => decide (b = c)
  | _ => false
def mInt (i : Int) (e : Expr) : Bool := match e with
  | .Constant (.int j) _ _ => decide (i = j)
  | _ => false
def mStr (x : Str) (e : Expr) : Bool := match e with
  | .Constant (.str y) _ _ => decide (x = y)
  | _ => false
def mBin (o : Bo) (ka kb : Expr → Bool) (e : Expr) : Bool := match e with
  | .BinOp a o' b _ => opB o o' && (ka a && kb b)
  | _ => false
def mNeg (ka : Expr → Bool) (e : Expr) : Bool := match e with
  | .UnaryOp .USub a _ => ka a
  | _ => false
def mNot (ka : Expr → Bool) (e : Expr) : Bool := match e with
  | .UnaryOp .Not a _ => ka a
  | _ => false
def mRest (op : BoolOp) (kb : Expr → Bool) (y : Expr) (r : List Expr) (p : Pos) : Bool := match r with
  | [] => kb y
  | _ => kb (.BoolOp op (y :: r) p)
def mAnd (ka kb : Expr → Bool) (e : Expr) : Bool := match e with
  | .BoolOp .And (x :: y :: r) p => ka x && mRest .And kb y r p
  | _ => false
def mOr (ka kb : Expr → Bool) (e : Expr) : Bool := match e with
  | .BoolOp .Or (x :: y :: r) p => ka x && mRest .Or kb y r p
  | _ => false
def mCmp (o : Co) (ka kb : Expr → Bool) (e : Expr) : Bool := match e with
  | .Compare a [o'] [b] _ => opC o o' && (ka a && kb b)
  | _ => false
def mChn (o p : Co) (ka kb kc : Expr → Bool) (e : Expr) : Bool := match e with
  | .Compare a [o', p'] [b, c] _ => opC o o' && (opC p p' && (ka a && (kb b && (kc c && okE c))))
  | _ => false
def isOp (n : Bool) (o : CmpOp) : Bool := match o with
  | .Is => !n
  | .IsNot => n
  | _ => false
def inOp (n : Bool) (o : CmpOp) : Bool := match o with
  | .In => !n
  | .NotIn => n
  | _ => false
def mIsN (n : Bool) (ka : Expr → Bool) (e : Expr) : Bool := match e with
  | .Compare a [o] [.Constant .none _ _] _ => isOp n o && ka a
  | _ => false
def mIsB (n b : Bool) (ka : Expr → Bool) (e : Expr) : Bool := match e with
  | .Compare a [o] [.Constant (.bool c) _ _] _ => decide (b = c) && (isOp n o && ka a)
  | _ => false
def mMem (n : Bool) (ka kb : Expr → Bool) (e : Expr) : Bool := match e with
  | .Compare a [o] [b] _ => inOp n o && (ka a && (kb b && okE b))
  | _ => false
def mIte (kc ka kb : Expr → Bool) (e : Expr) : Bool := match e with
  | .IfExp c a b _ => kc c && (ka a && kb b)
  | _ => false
def mTup (n : Nat) (ks : List Expr → Bool) (e : Expr) : Bool := match e with
  | .Tuple es _ _ => ks es && decide (n ≤ 1000)
  | _ => false
def mLst (n : Nat) (ks : List Expr → Bool) (e : Expr) : Bool := match e with
  | .List es _ => ks es && decide (n ≤ 1000)
  | _ => false
def mIx (ka kb : Expr → Bool) (e : Expr) : Bool := match e with
  | .Subscript a b _ => okE b && (ka a && kb b)
  | _ => false
def mOpt (n : Bool) (ka : Expr → Bool) (e : Option Expr) : Bool := match e with
  | none => n
  | some a => ka a && !n
def mSl (nb nc : Bool) (ka kb kc : Expr → Bool) (e : Expr) : Bool := match e with
  | .Subscript a (.Slice b c none _) _ => ka a && (mOpt nb kb b && mOpt nc kc c)
  | _ => false
def mRev (ka : Expr → Bool) (e : Expr) : Bool := match e with
  | .Subscript a (.Slice none none (some (.UnaryOp .USub (.Constant (.int 1) _ _) _)) _) _ => ka a
  | _ => false
/-- how the values stand to the parameters -/
def mShape (f : Nat) (pm : List Nat) (n m : Nat) (as : List Expr) (kws : List Keyword) : Bool := match pm, kws with
  | [], [] => decide (n = (cf.prm f).length)
  | [], _ => false
  | pm, kws => decide (pm = pmOf (cf.prm f) as.length (kwNames kws)) && decide ((as.length, kwNames kws) ∈ cf.shp f)
def mCall (f : Nat) (pm : List Nat) (n : Nat) (ks : List Expr → Bool) (e : Expr) : Bool := match e with
  | .Call (.Name x _) as kws _ => decide (cf.fnI x = some f) && (isG sc x && (!decide (x = "__debug__") && (ks (as ++ kws.map (·.value)) && ((kws.all fun k => k.arg.isSome) && mShape cf f pm n 0 as kws))))
  | _ => false
/-- f(a, ..) of a def f( *xs) -/
def mCallV (f : Nat) (n : Nat) (ks : List Expr → Bool) (e : Expr) : Bool := match e with
  | .Call (.Name x _) as [] _ => decide (cf.fvI x = some f) && (isG sc x && (!decide (x = "__debug__") && (decide (n ≤ 1000) && ks as)))
  | _ => false
def mIn (x y : Str) (ks : List Expr → Bool) (e : Expr) : Bool := match e with
  | .Call (.Name x' _) [.Call (.Name y' _) as [] p1] [] p2 => decide (x' = x) && (decide (y' = y) && (isG sc x && (isG sc y && ks as)))
  | _ => false
def mDef (x k : Str) (ks : List Expr → Bool) (e : Expr) : Bool := match e with
  | .Call (.Name x' _) [a] [⟨some k', d, _⟩] _ => decide (x' = x) && (decide (k' = k) && (isG sc x && ks [a, d]))
  | _ => false
/-- x.m(..) -/
def mMeth (m : Str) (ks : List Expr → Bool) (e : Expr) : Bool := match e with
  | .Call (.Attribute o m' ap) as [] cp => decide (m' = m) && (ks (o :: as) && (ap.endLine == cp.line))
  | _ => false
/-- x.bit_length() -/
def notCall0 (e : Expr) : Bool := match e with
  | .Call (.Name _ _) [] [] _ => false
  | _ => true
def mBits (ks : List Expr → Bool) (e : Expr) : Bool := match e with
  | .Call (.Attribute o m' ap) [] [] cp => decide (m' = "bit_length") && (ks [o] && ((ap.endLine == cp.line) && notCall0 o))
  | _ => false
def mBi0 (f : Bi) (ks : List Expr → Bool) (e : Expr) : Bool := match e with
  | .Call (.Name x _) as [] _ => decide (biN f = some x) && (isG sc x && ks as)
  | _ => false
def mBi (f : Bi) (n : Nat) (ks : List Expr → Bool) (e : Expr) : Bool := match f with
  | .sset => mIn sc "sorted" "set" ks e && decide (n = 1)
  | .lrng1 => false
  | .lrng2 => mIn sc "list" "range" ks e && decide (n = 2)
  | .maxd => mDef sc "max" "default" ks e && decide (n = 2)
  | .bits => mBits ks e
  | .count => false
  | .index => false
  | .join => false
  | .split => false
  | .str => false
  | f => mBi0 sc f ks e
def mTys (ts : List Ty) (t : Expr) : Bool := match ts, t with
  | [t], .Name y _ => decide (y = tyN t) && isG sc (tyN t)
  | ts, .Tuple es _ _ => chkTys sc ts es && decide (ts.length ≤ 10)
  | _, _ => false
def mIsi (ts : List Ty) (ka : Expr → Bool) (e : Expr) : Bool := match e with
  | .Call (.Name x _) [a, t] [] _ => decide (x = "isinstance") && (isG sc x && (okE a && (ka a && mTys sc ts t)))
  | _ => false
/-- enumerate gives pairs -/
def enTp (k : IK) (t : Tg) : Bool := match k, t with
  | .enum, .nm _ => false
  | _, _ => true
/-- what is walked -/
def mIt (k : IK) (ks : List Expr → Bool) (it : Expr) : Bool := match k, it with
  | .val, it => ks [it]
  | k, .Call (.Name x _) as [] _ => decide (ikN k = some (x, as.length)) && (isG sc x && ks as)
  | _, _ => false
def mLc (t : Tg) (k : IK) (n : Nat) (ke : Scope → Expr → Bool) (ks : List Expr → Bool) (kd : Scope → List Expr → Bool) (e : Expr) : Bool := match e with
  | .ListComp e' [⟨tg, it, ifs, ia⟩] osc _ => decide (ia = 0) && (enTp k t && (ke (L2.relS osc sc) e' && (chkTg cf osc t tg && (L2.blkC cf.N sc osc (tgNames t tg) && (kd (L2.relS osc sc) ifs && (decide (n ≤ 1) && (mIt sc k ks it && okE it)))))))
  | _ => false
def mXf (i : Nat) (f : Str) (e : Expr) : Bool := match e with
  | .Attribute (.Name x _) g _ => decide (cf.N[i]? = some x) && (isL sc x && (decide (f = g) && (!decide (x = "__debug__") && !decide (x = "__classdict__"))))
  | _ => false
def mXis (i c : Nat) (e : Expr) : Bool := match e with
  | .Call (.Name x _) [.Name y _, .Name z _] [] _ => decide (x = "isinstance") && (isG sc x && (decide (cf.N[i]? = some y) && (isL sc y && ((decide (cf.xcI z = some c) || (decide (z = "ValueError") && decide (c = 1000))) && (isG sc z && (!decide (z = "__debug__") && (!decide (y = "__debug__") && !decide (y = "__classdict__"))))))))
  | _ => false
def mCons (k : Expr → Bool) (ks : List Expr → Bool) (es : List Expr) : Bool := match es with
  | e :: es => k e && (okE e && ks es)
  | [] => false
end

mutual
def chkE (cf : Cf) : C → Scope → Expr → Bool
  | .var i, sc, e => mVar cf sc i e
  | .non, _, e => mNon e
  | .bl b, _, e => mBl b e
  | .int i, _, e => mInt i e
  | .str x, _, e => mStr x e
  | .bin o a b, sc, e => mBin o (chkE cf a sc) (chkE cf b sc) e
  | .neg a, sc, e => mNeg (chkE cf a sc) e
  | .not a, sc, e => mNot (chkE cf a sc) e
  | .and a b, sc, e => mAnd (chkE cf a sc) (chkE cf b sc) e
  | .or a b, sc, e => mOr (chkE cf a sc) (chkE cf b sc) e
  | .cmp o a b, sc, e => mCmp o (chkE cf a sc) (chkE cf b sc) e
  | .chn o p a b c, sc, e => mChn o p (chkE cf a sc) (chkE cf b sc) (chkE cf c sc) e
  | .isN n a, sc, e => mIsN n (chkE cf a sc) e
  | .isB n b a, sc, e => mIsB n b (chkE cf a sc) e
  | .mem n a b, sc, e => mMem n (chkE cf a sc) (chkE cf b sc) e
  | .ite c a b, sc, e => mIte (chkE cf c sc) (chkE cf a sc) (chkE cf b sc) e
  | .tup es, sc, e => mTup es.length (chkEs cf es sc) e
  | .lst es, sc, e => mLst es.length (chkEs cf es sc) e
  | .ix a b, sc, e => mIx (chkE cf a sc) (chkE cf b sc) e
  | .sl a b c, sc, e => mSl (isNonC b) (isNonC c) (chkE cf a sc) (chkE cf b sc) (chkE cf c sc) e
  | .rev a, sc, e => mRev (chkE cf a sc) e
  | .call f pm es, sc, e => mCall cf sc f pm es.length (chkEs cf es sc) e
  | .callv f es, sc, e => mCallV cf sc f es.length (chkEs cf es sc) e
  | .bi f es, sc, e => mBi sc f es.length (chkEs cf es sc) e
  | .isi a ts, sc, e => mIsi sc ts (chkE cf a sc) e
  | .lc e t k es cd, sc, x => mLc cf sc t k cd.length (fun sc' y => chkE cf e sc' y) (chkEs cf es sc) (fun sc' l => chkEs cf cd sc' l) x
  | .xf i f, sc, e => mXf cf sc i f e
  | .xis i c, sc, e => mXis cf sc i c e
def chkEs (cf : Cf) : List C → Scope → List Expr → Bool
  | [], _, es => es.isEmpty
  | c :: cs, sc, es => mCons (chkE cf c sc) (chkEs cf cs sc) es
end

def isComp : C → Bool
  | .lc .. => true
  | _ => false
/-- no comprehension, no tuple display -/
def plainV : Expr → Bool
  | .ListComp .. => false
  | .SetComp .. => false
  | .DictComp .. => false
  | _ => true
def isLC : Expr → Bool
  | .ListComp .. => true
  | _ => false
def notTup : Expr → Bool
  | .Tuple .. => false
  | e => plainV e
/-- a, b = .., .. : the stores are swapped -/
def parSw (px py : Pos) (a b : Expr) : Bool := (px.line == py.line) && ((!foldedForSure 8 a || !foldedForSure 8 b) && (!constantsAlone 8 a || !constantsAlone 8 b))

section
variable (cf : Cf) (sc : Scope)
def nAsg (i : Nat) (e : C) (st : Stmt) : Bool := match st with
  | .Assign [.Name x p] e' _ => chkNm cf sc i (.Name x p) && ((plainV e' || isLC e') && chkE cf e sc e')
  | _ => false
def nUnp (is : List Nat) (e : C) (st : Stmt) : Bool := match st with
  | .Assign [.Tuple es _ _] e' _ => chkNms cf sc is es && (decide (2 ≤ is.length) && (decide (is.length ≤ 20) && (chkE cf e sc e' && notTup e')))
  | _ => false
def nPar (i j : Nat) (a b : C) (st : Stmt) : Bool := match st with
  | .Assign [.Tuple [.Name x px, .Name y py] _ _] (.Tuple [a', b'] _ _) _ => decide (cf.N[i]? = some x) && (decide (cf.N[j]? = some y) && (!decide (i = j) && (decide (sc.names.lookup x = some .local) && (decide (sc.names.lookup y = some .local) &&
      (chkE cf a sc a' && (okE a' && (chkE cf b sc b' && (okE b' && (parSw px py a' b' && !decide (x = y))))))))))
  | _ => false
def nmV (i : Nat) (x : Str) : Bool := decide (cf.N[i]? = some x) && (isL sc x && (!decide (x = "__debug__") && !decide (x = "__classdict__")))
def nPut (i : Nat) (a e : C) (st : Stmt) : Bool := match st with
  | .Assign [.Subscript (.Name x _) a' _] e' _ => nmV cf sc i x && (chkE cf a sc a' && (okE a' && (chkE cf e sc e' && notTup e')))
  | _ => false
/-- x = [] of a list of own lists -/
def nNnew (i : Nat) (st : Stmt) : Bool := match st with
  | .Assign [.Name x p] e' _ => chkNm cf sc i (.Name x p) && (plainV e' && chkE cf (.lst []) sc e')
  | _ => false
/-- x[a].append(e) -/
def nNadd (i : Nat) (a e : C) (st : Stmt) : Bool := match st with
  | .Expr (.Call (.Attribute (.Subscript (.Name x _) a' _) m' ap) as [] cp) _ => nmV cf sc i x && (decide (m' = "append") && (chkE cf a sc a' && (okE a' && (chkEs cf [e] sc as && (ap.endLine == cp.line)))))
  | _ => false
/-- x.m(..) as a statement -/
def nMeth (i : Nat) (m : Str) (ks : List Expr → Bool) (st : Stmt) : Bool := match st with
  | .Expr (.Call (.Attribute (.Name x _) m' ap) as [] cp) _ => nmV cf sc i x && (decide (m' = m) && (ks as && (ap.endLine == cp.line)))
  | _ => false
def nPopTo (j i : Nat) (st : Stmt) : Bool := match st with
  | .Assign [.Name y p] (.Call (.Attribute (.Name x _) m ap) [] [] cp) _ => nmV cf sc i x && (decide (m = "pop") && (chkNm cf sc j (.Name y p) && (ap.endLine == cp.line)))
  | _ => false
def nAug (i : Nat) (o : Bo) (e : C) (st : Stmt) : Bool := match st with
  | .AugAssign (.Name x p) o' e' _ => chkNm cf sc i (.Name x p) && (opB o o' && (chkE cf e sc e' && (decide (o = .add) || decide (o = .sub))))
  | _ => false
def nExp (e : C) (st : Stmt) : Bool := match st with
  | .Expr e' _ => chkE cf e sc e' && notTup e'
  | _ => false
def nRet (e : C) (st : Stmt) : Bool := match st with
  | .Return (some e') _ => chkE cf e sc e'
  | _ => false
def nRetN (st : Stmt) : Bool := match st with
  | .Return none _ => true
  | _ => false
def nIte (c : C) (ka kb : List Stmt → Bool) (st : Stmt) : Bool := match st with
  | .If c' a b _ => chkE cf c sc c' && (ka a && kb b)
  | _ => false
def nFr (t : Tg) (k : IK) (es : List C) (kb : List Stmt → Bool) (st : Stmt) : Bool := match st with
  | .For tg it body [] _ => chkTg cf sc t tg && (enTp k t && (kb body && (mIt sc k (chkEs cf es sc) it && okE it)))
  | _ => false
def nWh (c : C) (kb : List Stmt → Bool) (st : Stmt) : Bool := match st with
  | .While c' body [] _ => chkE cf c sc c' && kb body
  | _ => false
def nBrk (st : Stmt) : Bool := match st with
  | .Break _ => true
  | _ => false
def nCnt (st : Stmt) : Bool := match st with
  | .Continue _ => true
  | _ => false
def nPas (st : Stmt) : Bool := match st with
  | .Pass _ => true
  | _ => false
def nRai (c : Nat) (es : List C) (st : Stmt) : Bool := match st with
  | .Raise (some (.Call (.Name x _) (a :: as) [] _)) none _ => decide (cf.xcI x = some c) && (isG sc x && (chkEs cf es sc (a :: as) && (decide (es.length ≤ 10) && (decide (c ∈ cf.rz) && !decide (x = "__debug__")))))
  | _ => false
def nTri (n : Nat) (kb : List Stmt → Bool) (kh : List ExceptHandler → Bool) (st : Stmt) : Bool := match st with
  | .Try body hs [] [] _ => kb body && (kh hs && decide (1 ≤ n))
  | _ => false
def nHd (hc : List Nat) (hv : List (Option Nat)) (kb : List Stmt → Bool) (kh : List Nat → List (Option Nat) → List ExceptHandler → Bool) (hs : List ExceptHandler) : Bool := match hc, hv, hs with
  | c :: hc', none :: hv', .ExceptHandler (some (.Name x _)) none st _ :: hs => decide (cf.xcI x = some c) && (isG sc x && (!decide (x = "__debug__") && (kb st && (kh hc' hv' hs && !st.isEmpty))))
  | c :: hc', some v :: hv', .ExceptHandler (some (.Name x _)) (some n) st _ :: hs => decide (cf.xcI x = some c) && (isG sc x && (decide (cf.N[v]? = some n) && (decide (sc.names.lookup n = some .local) && (!decide (x = "__debug__") && (kb st && (kh hc' hv' hs && !st.isEmpty))))))
  | _, _, _ => false
def nCons (k : Stmt → Bool) (ks : List Stmt → Bool) (sts : List Stmt) : Bool := match sts with
  | st :: sts => k st && ks sts
  | [] => false
end
/-- what a suite behind an except may hold -/
def hotC : C → Bool
  | .var _ => true
  | .non => true
  | .bl _ => true
  | .int _ => true
  | .str _ => true
  | .not a => hotC a
  | .and a b => hotC a && hotC b
  | .or a b => hotC a && hotC b
  | .cmp _ a b => hotC a && hotC b
  | .isN _ a => hotC a
  | .isB _ _ a => hotC a
  | .tup es => hotCs es
  | .xf _ _ => true
  | .xis _ _ => true
  | _ => false
where hotCs : List C → Bool
  | [] => true
  | c :: cs => hotC c && hotCs cs
def hotS : S → Bool
  | .asg _ e => hotC e
  | .ret e => hotC e
  | .ite c a b => hotC c && (hotSs a && hotSs b)
  | .pas => true
  | .brk => true
  | .cnt => true
  | .kil _ => true
  | _ => false
where hotSs : List S → Bool
  | [] => true
  | c :: cs => hotS c && hotSs cs
abbrev hotSs := hotS.hotSs
def isKil : S → Bool
  | .kil _ => true
  | _ => false

mutual
def chkS (cf : Cf) (sc : Scope) : S → Stmt → Bool
  | .asg i e, st => nAsg cf sc i e st
  | .unp is e, st => nUnp cf sc is e st
  | .par i j a b, st => nPar cf sc i j a b st
  | .put i a e, st => nPut cf sc i a e st
  | .app i e, st => nMeth cf sc i "append" (chkEs cf [e] sc) st
  | .ext i e, st => nMeth cf sc i "extend" (chkEs cf [e] sc) st
  | .pop i, st => nMeth cf sc i "pop" (chkEs cf [] sc) st
  | .popA i a, st => nMeth cf sc i "pop" (chkEs cf [a] sc) st
  | .popTo j i, st => nPopTo cf sc j i st
  | .aug i o e, st => nAug cf sc i o e st
  | .exp e, st => nExp cf sc e st
  | .ret e, st => nRet cf sc e st
  | .retN, st => nRetN st
  | .ite c a b, st => nIte cf sc c (chkSs cf sc a) (chkSs cf sc b) st
  | .fr t k es body, st => nFr cf sc t k es (chkSs cf sc body) st
  | .wh c body, st => nWh cf sc c (chkSs cf sc body) st
  | .brk, st => nBrk st
  | .cnt, st => nCnt st
  | .pas, st => nPas st
  | .rai c es, st => nRai cf sc c es st
  | .tri body hc hv hb, st => nTri hb.length (chkSs cf sc body) (fun hs => chkHs cf sc hb hc hv hs) st
  | .kil _, _ => false
  | .nnew i, st => nNnew cf sc i st
  | .napp i, st => nMeth cf sc i "append" (chkEs cf [.lst []] sc) st
  | .nadd i a e, st => nNadd cf sc i a e st
def chkSs (cf : Cf) (sc : Scope) : List S → List Stmt → Bool
  | [], sts => sts.isEmpty
  | s :: ss, sts => if isKil s = true then chkSs cf sc ss sts else nCons (chkS cf sc s) (chkSs cf sc ss) sts
def chkHs (cf : Cf) (sc : Scope) : List (List S) → List Nat → List (Option Nat) → List ExceptHandler → Bool
  | [], hc, hv, hs => hs.isEmpty && (hc.isEmpty && hv.isEmpty)
  | b :: bs, hc, hv, hs => nHd cf sc hc hv (fun st => hotSs b && chkSs cf sc b st) (fun hc hv hs => chkHs cf sc bs hc hv hs) hs
end
/-- a def is as its function says -/
def chkF (cf : Cf) (f : Nat) (fn : Fn) (x : Str) (st : Stmt) : Bool := match st with
  | .FunctionDef y a body _ _ _ sc _ _ _ => decide (y = x) && (decide (a.args.map (·.arg) = cf.prm f) && (a.posonlyargs.isEmpty && (a.vararg.isNone && (a.kwonlyargs.isEmpty && (a.kwarg.isNone && (a.defaults.isEmpty && (decide (fn.np = (cf.prm f).length) &&
      (decide (fn.ns = cf.N.length) && (decide (cf.N.take fn.np = cf.prm f) && (decide cf.N.Nodup && (decide (sc.kind = .function) && (!sc.isCoroutine && (!sc.isGenerator && ((cf.prm f).all (fun p => isSt sc p) && ((sc.names.all fun y => !decide (y.2 = .free)) && chkSs cf sc fn.body body)))))))))))))))
  | _ => false
end Uq

set_option maxHeartbeats 1000000
/-! Uq, part c: how our data lie in the hand layer's heap. -/
namespace Uq
open PySem PySem.Spec PyProof.Rows L2

/-- a list that is only read: locked, or one of the written part -/
def LkL (K : PySem.W.Frag) (H : Hp) (a : Addr) (xs : List V) : Prop :=
  (∃ o, H a = some (.frz o (.lst xs))) ∨
    ∃ (o : Obj) (its : Array Value) (n : Nat), K.lookup a = some o ∧ o.cls = .type "list" ∧ o.dict = none ∧ o.data = .seq its n ∧ its.size ≤ sizeLine ∧ Vals xs its.toList
theorem LkL.sq {K : PySem.W.Frag} {H : Hp} {a : Addr} {xs : List V} (h : LkL K H a xs) : SqL K H a xs := by
  rcases h with ⟨o, h⟩ | h
  · exact .inl (.inr ⟨o, h⟩)
  · exact .inr h

mutual
/-- the value v stands for the data d: tuples as they stand; lists at addresses that S lets -/
def Rp (K : PySem.W.Frag) (S : Addr → Prop) (H : Hp) : D → V → Prop
  | .none, v => v = .non
  | .bool b, v => v = .bl b
  | .int i, v => v = .int i
  | .str x, v => v = .str x
  | .list ds, v => ∃ a xs, v = .ref a ∧ S a ∧ H a = some (.lst xs) ∧ Rps K S H ds xs
  | .tuple ds, v => ∃ a xs, v = .ref a ∧ SqT K H a xs ∧ Rps K S H ds xs
  | .dict kvs, v => ∃ (a : Addr) (ns : List Int), v = .ref a ∧ LkL K H a (ns.map V.int) ∧ kvs = ns.map fun n => (.none, .int n)
def Rps (K : PySem.W.Frag) (S : Addr → Prop) (H : Hp) : List D → List V → Prop
  | [], vs => vs = []
  | d :: ds, vs => ∃ v r, vs = v :: r ∧ Rp K S H d v ∧ Rps K S H ds r
end

section
variable {K : PySem.W.Frag} {S S' : Addr → Prop} {H H' : Hp}
/-- what is kept: all but the lists that S does not let -/
def Kp (S : Addr → Prop) (H H' : Hp) : Prop := ∀ a o, H a = some o → (S a ∨ ∀ xs, o ≠ .lst xs) → H' a = some o
theorem Kp.of_same (h : Same H H') : Kp S H H' := fun a o e _ => h a o e
theorem Kp.sqT (k : Kp S H H') {a : Addr} {xs : List V} (h : SqT K H a xs) : SqT K H' a xs := by
  rcases h with h | h
  · rcases h with h | ⟨o, h⟩
    · exact .inl (.inl (k a _ h (.inr fun _ e => HO.noConfusion e)))
    · exact .inl (.inr ⟨o, k a _ h (.inr fun _ e => HO.noConfusion e)⟩)
  · exact .inr h
theorem Kp.lkL (k : Kp S H H') {a : Addr} {xs : List V} (h : LkL K H a xs) : LkL K H' a xs := by
  rcases h with ⟨o, h⟩ | h
  · exact .inl ⟨o, k a _ h (.inr fun _ e => HO.noConfusion e)⟩
  · exact .inr h
mutual
theorem Rp.mono (hS : ∀ a o, H a = some o → S a → S' a) (k : Kp S H H') : ∀ (d : D) (v : V), Rp K S H d v → Rp K S' H' d v
  | .none, v, h => by simp only [Rp] at h ⊢; exact h
  | .bool b, v, h => by simp only [Rp] at h ⊢; exact h
  | .int i, v, h => by simp only [Rp] at h ⊢; exact h
  | .str x, v, h => by simp only [Rp] at h ⊢; exact h
  | .list ds, v, h => by
    simp only [Rp] at h ⊢
    obtain ⟨a, xs, e, sa, ha, r⟩ := h
    exact ⟨a, xs, e, hS a _ ha sa, k a _ ha (.inl sa), Rps.mono hS k ds xs r⟩
  | .tuple ds, v, h => by
    simp only [Rp] at h ⊢
    obtain ⟨a, xs, e, ha, r⟩ := h
    exact ⟨a, xs, e, k.sqT ha, Rps.mono hS k ds xs r⟩
  | .dict kvs, v, h => by
    simp only [Rp] at h ⊢
    obtain ⟨a, xs, e, ha, r⟩ := h
    exact ⟨a, xs, e, k.lkL ha, r⟩
theorem Rps.mono (hS : ∀ a o, H a = some o → S a → S' a) (k : Kp S H H') : ∀ (ds : List D) (vs : List V), Rps K S H ds vs → Rps K S' H' ds vs
  | [], vs, h => by simp only [Rps] at h ⊢; exact h
  | d :: ds, vs, h => by
    simp only [Rps] at h ⊢
    obtain ⟨v, r, e, h1, h2⟩ := h
    exact ⟨v, r, e, Rp.mono hS k d v h1, Rps.mono hS k ds r h2⟩
end
theorem Rp.same (s : Same H H') {d : D} {v : V} (h : Rp K S H d v) : Rp K S H' d v := Rp.mono (fun _ _ _ h => h) (.of_same s) d v h
theorem Rps.same (s : Same H H') {d : List D} {v : List V} (h : Rps K S H d v) : Rps K S H' d v := Rps.mono (fun _ _ _ h => h) (.of_same s) d v h
theorem Rp.wide (hS : ∀ a o, H a = some o → S a → S' a) {d : D} {v : V} (h : Rp K S H d v) : Rp K S' H d v := Rp.mono hS (.of_same (Same.refl H)) d v h
theorem Rps.wide (hS : ∀ a o, H a = some o → S a → S' a) {d : List D} {v : List V} (h : Rps K S H d v) : Rps K S' H d v := Rps.mono hS (.of_same (Same.refl H)) d v h

mutual
/-- data without lists do not lean on S -/
theorem Rp.noL : ∀ (d : D) (v : V), noL d = true → Rp K S H d v → Rp K S' H d v
  | .none, v, _, h => by simp only [Rp] at h ⊢; exact h
  | .bool b, v, _, h => by simp only [Rp] at h ⊢; exact h
  | .int i, v, _, h => by simp only [Rp] at h ⊢; exact h
  | .str x, v, _, h => by simp only [Rp] at h ⊢; exact h
  | .list ds, v, n, h => by simp only [Uq.noL] at n; cases n
  | .tuple ds, v, n, h => by
    simp only [Rp] at h ⊢
    simp only [Uq.noL] at n
    obtain ⟨a, xs, e, ha, r⟩ := h
    exact ⟨a, xs, e, ha, Rps.noL ds xs n r⟩
  | .dict kvs, v, n, h => by simp only [Uq.noL] at n; cases n
theorem Rps.noL : ∀ (ds : List D) (vs : List V), noLs ds = true → Rps K S H ds vs → Rps K S' H ds vs
  | [], vs, _, h => by simp only [Rps] at h ⊢; exact h
  | d :: ds, vs, n, h => by
    simp only [Rps] at h ⊢
    simp only [noLs, Bool.and_eq_true] at n
    obtain ⟨v, r, e, h1, h2⟩ := h
    exact ⟨v, r, e, Rp.noL d v n.1 h1, Rps.noL ds r n.2 h2⟩
end

theorem Rps.length : ∀ {ds : List D} {vs : List V}, Rps K S H ds vs → ds.length = vs.length
  | [], vs, h => by simp only [Rps] at h; subst h; rfl
  | d :: ds, vs, h => by
    simp only [Rps] at h
    obtain ⟨v, r, e, h1, h2⟩ := h
    subst e
    simp [Rps.length h2]
theorem Rps.get : ∀ {ds : List D} {vs : List V} {i : Nat} {d : D}, Rps K S H ds vs → ds[i]? = some d → ∃ v, vs[i]? = some v ∧ Rp K S H d v
  | [], vs, i, d, h, e => by simp at e
  | c :: ds, vs, i, d, h, e => by
    simp only [Rps] at h
    obtain ⟨v, r, rfl, h1, h2⟩ := h
    cases i with
    | zero => simp at e; subst e; exact ⟨v, rfl, h1⟩
    | succ i =>
      obtain ⟨w, e1, e2⟩ := Rps.get (i := i) h2 (by simpa using e)
      exact ⟨w, by simpa using e1, e2⟩
theorem Rps.getV : ∀ {ds : List D} {vs : List V} {i : Nat} {v : V}, Rps K S H ds vs → vs[i]? = some v → ∃ d, ds[i]? = some d ∧ Rp K S H d v := fun {ds vs i v} h e => by
  have hl := h.length
  have hi : i < ds.length := by
    rw [hl]
    exact (List.getElem?_eq_some_iff.mp e).1
  obtain ⟨w, e1, e2⟩ := h.get (d := ds[i]) (List.getElem?_eq_getElem hi)
  rw [e] at e1
  cases e1
  exact ⟨_, List.getElem?_eq_getElem hi, e2⟩
theorem Rps.append : ∀ {ds es : List D} {vs us : List V}, Rps K S H ds vs → Rps K S H es us → Rps K S H (ds ++ es) (vs ++ us)
  | [], es, vs, us, h, g => by simp only [Rps] at h; subst h; exact g
  | d :: ds, es, vs, us, h, g => by
    simp only [Rps] at h
    obtain ⟨v, r, rfl, h1, h2⟩ := h
    show Rps K S H (d :: (ds ++ es)) (v :: (r ++ us))
    simp only [Rps]
    exact ⟨v, _, rfl, h1, Rps.append h2 g⟩
theorem Rps.one {d : D} {v : V} (h : Rp K S H d v) : Rps K S H [d] [v] := by
  simp only [Rps]; exact ⟨v, [], rfl, h, rfl⟩
theorem Rps.cons {d : D} {v : V} {ds : List D} {vs : List V} (h : Rp K S H d v) (g : Rps K S H ds vs) : Rps K S H (d :: ds) (v :: vs) := by
  simp only [Rps]; exact ⟨v, vs, rfl, h, g⟩
theorem Rps.nil : Rps K S H [] [] := by simp only [Rps]
theorem Rps.take : ∀ {ds : List D} {vs : List V} (n : Nat), Rps K S H ds vs → Rps K S H (ds.take n) (vs.take n)
  | ds, vs, 0, h => by simp only [List.take_zero, Rps]
  | [], vs, n + 1, h => by simp only [Rps] at h; subst h; simp only [List.take_nil, Rps]
  | d :: ds, vs, n + 1, h => by
    simp only [Rps] at h
    obtain ⟨v, r, rfl, h1, h2⟩ := h
    exact .cons h1 (Rps.take n h2)
theorem Rps.drop : ∀ {ds : List D} {vs : List V} (n : Nat), Rps K S H ds vs → Rps K S H (ds.drop n) (vs.drop n)
  | ds, vs, 0, h => h
  | [], vs, n + 1, h => by simp only [Rps] at h; subst h; simp only [List.drop_nil, Rps]
  | d :: ds, vs, n + 1, h => by
    simp only [Rps] at h
    obtain ⟨v, r, rfl, h1, h2⟩ := h
    exact Rps.drop n h2
theorem Rps.cut {ds : List D} {vs : List V} {lo hi : Option Int} (h : Rps K S H ds vs) : Rps K S H (Uq.cut ds lo hi) (cutV vs lo hi) := by
  unfold Uq.cut cutV
  rw [← h.length]
  exact (h.drop _).take _
theorem Rps.rev : ∀ {ds : List D} {vs : List V}, Rps K S H ds vs → Rps K S H ds.reverse vs.reverse
  | [], vs, h => by simp only [Rps] at h; subst h; exact .nil
  | d :: ds, vs, h => by
    simp only [Rps] at h
    obtain ⟨v, r, rfl, h1, h2⟩ := h
    rw [List.reverse_cons, List.reverse_cons]
    exact (Rps.rev h2).append (.one h1)
theorem Rps.set : ∀ {ds : List D} {vs : List V} {d : D} {v : V} (i : Nat), Rp K S H d v → Rps K S H ds vs → Rps K S H (ds.set i d) (vs.set i v)
  | [], vs, d, v, i, g, h => by simp only [Rps] at h; subst h; exact .nil
  | c :: ds, vs, d, v, i, g, h => by
    simp only [Rps] at h
    obtain ⟨w, r, rfl, h1, h2⟩ := h
    cases i with
    | zero => exact .cons g h2
    | succ i => exact .cons h1 (Rps.set i g h2)
theorem Rps.dropLast {ds : List D} {vs : List V} (h : Rps K S H ds vs) : Rps K S H ds.dropLast vs.dropLast := by
  rw [List.dropLast_eq_take, List.dropLast_eq_take, h.length]
  exact h.take _
theorem Rps.eraseIdx : ∀ {ds : List D} {vs : List V} (i : Nat), Rps K S H ds vs → Rps K S H (ds.eraseIdx i) (vs.eraseIdx i)
  | [], vs, i, h => by simp only [Rps] at h; subst h; exact .nil
  | c :: ds, vs, i, h => by
    simp only [Rps] at h
    obtain ⟨w, r, rfl, h1, h2⟩ := h
    cases i with
    | zero => exact h2
    | succ i => exact .cons h1 (Rps.eraseIdx i h2)
theorem Rps.rep {ds : List D} {vs : List V} (h : Rps K S H ds vs) : ∀ n : Nat, Rps K S H (List.replicate n ds).flatten (List.replicate n vs).flatten
  | 0 => .nil
  | n + 1 => by
    rw [List.replicate_succ, List.replicate_succ, List.flatten_cons, List.flatten_cons]
    exact h.append (h.rep n)
theorem Rps.atI {ds : List D} {vs : List V} {i : Int} {d : D} (h : Rps K S H ds vs) (e : atI ds i = some d) : ∃ v, L2.atI vs i = some v ∧ Rp K S H d v := by
  unfold L2.atI at e ⊢
  rw [← h.length]
  cases q : ixN ds.length i with
  | none => rw [q] at e; cases e
  | some j =>
    rw [q] at e
    exact h.get e

mutual
/-- as the library's data -/
theorem Rp.dp : ∀ (d : D) (v : V), Rp K S H d v → SeqAt.shaped d = true → Dp K H v d
  | .none, v, h, _ => by simp only [Rp] at h; subst h; exact .non
  | .bool b, v, h, _ => by simp only [Rp] at h; subst h; exact .bl b
  | .int i, v, h, _ => by simp only [Rp] at h; subst h; exact .int i
  | .str x, v, h, _ => by simp only [Rp] at h; subst h; exact .str x
  | .list ds, v, h, s => by
    simp only [Rp] at h
    obtain ⟨a, xs, rfl, _, ha, r⟩ := h
    have s' := SeqAt.canLay_of_shaped s
    simp only [PyData.canLay0] at s'
    exact .lst (SqL.of ha) (Rps.dp ds xs r s')
  | .tuple ds, v, h, s => by
    simp only [Rp] at h
    obtain ⟨a, xs, rfl, ha, r⟩ := h
    have s' := SeqAt.canLay_of_shaped s
    simp only [PyData.canLay0] at s'
    exact .tup ha (Rps.dp ds xs r s')
  | .dict kvs, v, h, s => by
    have s' := SeqAt.canLay_of_shaped s
    simp only [PyData.canLay0] at s'
    cases s'
theorem Rps.dp : ∀ (ds : List D) (vs : List V), Rps K S H ds vs → PyData.canLayAll0 ds = true → DpAll K H vs ds
  | [], vs, h, _ => by simp only [Rps] at h; subst h; exact .nil
  | d :: ds, vs, h, s => by
    simp only [Rps] at h
    obtain ⟨v, r, rfl, h1, h2⟩ := h
    simp only [PyData.canLayAll0, Bool.and_eq_true] at s
    exact .cons (Rp.dp0 d v h1 s.1) (Rps.dp ds r h2 s.2)
theorem Rp.dp0 : ∀ (d : D) (v : V), Rp K S H d v → d.canLay0 = true → Dp K H v d
  | .none, v, h, _ => by simp only [Rp] at h; subst h; exact .non
  | .bool b, v, h, _ => by simp only [Rp] at h; subst h; exact .bl b
  | .int i, v, h, _ => by simp only [Rp] at h; subst h; exact .int i
  | .str x, v, h, _ => by simp only [Rp] at h; subst h; exact .str x
  | .list ds, v, h, s => by
    simp only [Rp] at h
    obtain ⟨a, xs, rfl, _, ha, r⟩ := h
    simp only [PyData.canLay0] at s
    exact .lst (SqL.of ha) (Rps.dp ds xs r s)
  | .tuple ds, v, h, s => by
    simp only [Rp] at h
    obtain ⟨a, xs, rfl, ha, r⟩ := h
    simp only [PyData.canLay0] at s
    exact .tup ha (Rps.dp ds xs r s)
  | .dict kvs, v, h, s => by
    simp only [PyData.canLay0] at s
    cases s
end
end

/-- a value's result: if it is a new list, at a new address that nothing else knows -/
def Res (K : PySem.W.Frag) (S : Addr → Prop) (H H' : Hp) (fr : Bool) (d : D) (v : V) : Prop :=
  Rp K S H' d v ∧ (fr = true → ∀ ds, d = .list ds → ∃ a vs, v = .ref a ∧ H a = none ∧ H' a = some (.lst vs) ∧ Rps K (fun b => S b ∧ b ≠ a) H' ds vs)
end Uq

set_option maxHeartbeats 1000000
/-! Uq, part d: operators by data. -/
namespace Uq
open PySem PySem.Spec PyProof.Rows L2
section
variable {K : PySem.W.Frag} {S : Addr → Prop} {H : Hp}
theorem same_upd {p : Addr} {o : HO} (h : H p = none) : Same H (upd H p o) := fun b u e => by rw [upd_ne (ne_of_none e h)]; exact e
/-- a new list -/
theorem new_lst {ds : List D} {xs : List V} {p : Addr} (h : Rps K S H ds xs) (hp : H p = none) (sp : S p) : Res K S H (upd H p (.lst xs)) true (.list ds) (.ref p) := by
  have r : Rps K (fun b => S b ∧ b ≠ p) (upd H p (.lst xs)) ds xs := Rps.mono (fun a o e sa => ⟨sa, ne_of_none e hp⟩) (.of_same (same_upd hp)) ds xs h
  refine ⟨?_, fun _ es e => ?_⟩
  · simp only [Rp]
    exact ⟨p, xs, rfl, sp, upd_same, Rps.wide (fun _ _ _ q => q.1) r⟩
  · cases e
    exact ⟨p, xs, rfl, hp, upd_same, r⟩
theorem new_tup {ds : List D} {xs : List V} {p : Addr} (h : Rps K S H ds xs) (hp : H p = none) : Rp K S (upd H p (.tup xs)) (.tuple ds) (.ref p) := by
  simp only [Rp]
  exact ⟨p, xs, rfl, SqT.of upd_same, h.same (same_upd hp)⟩
theorem res_of {H' : Hp} {d : D} {v : V} {fr : Bool} (h : Rp K S H' d v) (n : ∀ ds, d ≠ .list ds) : Res K S H H' fr d v := ⟨h, fun _ ds e => absurd e (n ds)⟩
theorem res_int {H' : Hp} {i : Int} {fr : Bool} : Res K S H H' fr (.int i) (.int i) := res_of (by simp only [Rp]) fun _ e => by cases e
theorem res_bl {H' : Hp} {i : Bool} {fr : Bool} : Res K S H H' fr (.bool i) (.bl i) := res_of (by simp only [Rp]) fun _ e => by cases e
theorem res_str {H' : Hp} {i : Str} {fr : Bool} : Res K S H H' fr (.str i) (.str i) := res_of (by simp only [Rp]) fun _ e => by cases e
theorem res_non {H' : Hp} {fr : Bool} : Res K S H H' fr .none .non := res_of (by simp only [Rp]) fun _ e => by cases e
theorem Rp.int_ {i : Int} {x : V} (h : Rp K S H (.int i) x) : x = .int i := by simpa only [Rp] using h
theorem Rp.bl_ {i : Bool} {x : V} (h : Rp K S H (.bool i) x) : x = .bl i := by simpa only [Rp] using h
theorem Rp.str_ {i : Str} {x : V} (h : Rp K S H (.str i) x) : x = .str i := by simpa only [Rp] using h
theorem Rp.non_ {x : V} (h : Rp K S H .none x) : x = .non := by simpa only [Rp] using h
theorem Rp.lst_ {ds : List D} {x : V} (h : Rp K S H (.list ds) x) : ∃ a xs, x = .ref a ∧ S a ∧ H a = some (.lst xs) ∧ Rps K S H ds xs := by simpa only [Rp] using h
theorem Rp.tup_ {ds : List D} {x : V} (h : Rp K S H (.tuple ds) x) : ∃ a xs, x = .ref a ∧ SqT K H a xs ∧ Rps K S H ds xs := by simpa only [Rp] using h
theorem Rp.dic_ {kvs : List (D × D)} {x : V} (h : Rp K S H (.dict kvs) x) : ∃ (a : Addr) (ns : List Int), x = .ref a ∧ LkL K H a (ns.map V.int) ∧ kvs = ns.map fun n => (.none, .int n) := by simpa only [Rp] using h
theorem Rps.ints : ∀ (ns : List Int), Rps K S H (ns.map PyData.int) (ns.map V.int)
  | [] => .nil
  | n :: ns => .cons (by simp only [Rp]) (Rps.ints ns)

def toOp : Bo → Operator
  | .add => .Add
  | .sub => .Sub
  | .mul => .Mult
  | .fdiv => .FloorDiv
  | .mod => .Mod
  | .pow => .Pow
  | .shl => .LShift
  | .shr => .RShift
  | .band => .BitAnd
  | .bor => .BitOr
theorem opB_to {o : Bo} {o' : Operator} (h : opB o o' = true) : o' = toOp o := by cases o <;> cases o' <;> first | rfl | cases h
def toCo : Co → CmpOp
  | .lt => .Lt
  | .le => .LtE
  | .gt => .Gt
  | .ge => .GtE
  | .eq => .Eq
  | .ne => .NotEq
theorem opC_to {o : Co} {o' : CmpOp} (h : opC o o' = true) : o' = toCo o := by cases o <;> cases o' <;> first | rfl | cases h
theorem toCo_in (o : Co) : toCo o ≠ .In ∧ toCo o ≠ .NotIn := by cases o <;> exact ⟨by decide, by decide⟩
theorem MulOk.ok {i j : Int} (h : MulOk i j) : IntMulOk i j := by
  rcases h with h | h | h
  · exact .of_left (intBits_le_64 h.1 h.2)
  · exact .of_right (intBits_le_64 h.1 h.2)
  · exact CMulW.ok h
end

/-- an operator by data -/
def rBin (K : PySem.W.Frag) (o : Bo) : R2 := fun x y H Q => ∃ (S : Addr → Prop) (dx dy : D) (q : QD), Rp K S H dx x ∧ Rp K S H dy y ∧ (∀ a, H a = none → S a) ∧ binR o dx dy q ∧
  ∀ d v H', Same H H' → Res K S H H' true d v → q d → Q v H'
theorem rBin_int {K : PySem.W.Frag} {o : Bo} {x y : V} {H : Hp} {Q : VK} {S : Addr → Prop} {q : QD} {k : Int} (hq : q (.int k)) (cont : ∀ d v H', Same H H' → Res K S H H' true d v → q d → Q v H') : Q (.int k) H :=
  cont (.int k) (.int k) H (Same.refl H) res_int hq
section
variable {X : Cx}
theorem mul_intW : OpR X (binaryOp .Mult) (rI MulOk fun i j => .int (i * j)) := opI fun _ _ _ _ _ _ _ hc q => mul_int q hc.ok
theorem fdiv_intW : OpR X (binaryOp .FloorDiv) (rI (fun _ j => j ≠ 0 ∧ j.natAbs.log2 < 9000) fun i j => .int (i.fdiv j)) := opI fun _ _ _ _ _ _ _ hc q => floordiv_int hc.1 q (.inl (PyProof.noPylong_of_log2 hc.2))
theorem opBin (o : Bo) : OpR X (binaryOp (toOp o)) (rBin X.K o) := by
  intro pins s σ H x y v u Q I rx ry h
  obtain ⟨S, dx, dy, q, hx, hy, hS, hb, cont⟩ := h
  have ci : ∀ k, q (.int k) → Q (.int k) H := fun k hq => rBin_int (o := o) (x := x) (y := y) hq cont
  cases o with
  | add =>
    cases dx <;> cases dy <;> first | exact False.elim hb | skip
    · have ex := hx.int_; have ey := hy.int_; subst ex ey
      exact op_add pins s σ H _ _ v u Q I rx ry ⟨_, _, rfl, rfl, ci _ hb⟩
    · have ex := hx.str_; have ey := hy.str_; subst ex ey
      exact op_add_str pins s σ H _ _ v u Q I rx ry ⟨_, _, rfl, rfl, hb.1, cont _ _ H (Same.refl H) res_str hb.2⟩
    · obtain ⟨a, xs, rfl, sa, ha, r1⟩ := hx.lst_
      obtain ⟨b, ys, rfl, sb, hb', r2⟩ := hy.lst_
      refine op_cat pins s σ H _ _ v u Q I rx ry ⟨a, b, xs, ys, rfl, rfl, ha, hb', by rw [← r1.length, ← r2.length]; exact hb.1, fun p hp => ?_⟩
      exact cont _ _ _ (same_upd hp) (new_lst (r1.append r2) hp (hS p hp)) hb.2
    · obtain ⟨a, xs, rfl, ha, r1⟩ := hx.tup_
      obtain ⟨b, ys, rfl, hb', r2⟩ := hy.tup_
      refine op_catA pins s σ H _ _ v u Q I rx ry ⟨a, b, xs, ys, rfl, rfl, ha, hb', by rw [← r1.length, ← r2.length]; exact hb.1, fun e => ?_, fun _ e => ?_, fun _ _ p hp => ?_⟩
      · subst e
        have e1 := List.eq_nil_of_length_eq_zero (r1.length.trans rfl)
        subst e1
        exact cont _ _ _ (Same.refl H) (res_of hy fun _ e => by cases e) hb.2
      · subst e
        have e1 := List.eq_nil_of_length_eq_zero (r2.length.trans rfl)
        subst e1
        refine cont _ _ _ (Same.refl H) (res_of hx fun _ e => by cases e) ?_
        have hb2 := hb.2
        rw [List.append_nil] at hb2
        exact hb2
      · exact cont _ _ _ (same_upd hp) (res_of (new_tup (r1.append r2) hp) fun _ e => by cases e) hb.2
  | sub =>
    cases dx <;> cases dy <;> first | exact False.elim hb | skip
    have ex := hx.int_; have ey := hy.int_; subst ex ey
    exact op_sub pins s σ H _ _ v u Q I rx ry ⟨_, _, rfl, rfl, ci _ hb⟩
  | mul =>
    cases dx <;> cases dy <;> first | exact False.elim hb | skip
    · have ex := hx.int_; have ey := hy.int_; subst ex ey
      exact mul_intW pins s σ H _ _ v u Q I rx ry ⟨_, _, rfl, rfl, hb.1, ci _ hb.2⟩
    · obtain ⟨a, xs, rfl, sa, ha, r1⟩ := hx.lst_
      have ey := hy.int_; subst ey
      obtain ⟨⟨h1, h2, h3⟩, hq⟩ := hb
      refine op_rep pins s σ H _ _ v u Q I rx ry ⟨a, _, xs, rfl, rfl, ha, h1, h2, by rw [← r1.length]; exact h3, fun p hp => ?_⟩
      exact cont _ _ _ (same_upd hp) (new_lst (r1.rep _) hp (hS p hp)) hq
  | fdiv =>
    cases dx <;> cases dy <;> first | exact False.elim hb | skip
    have ex := hx.int_; have ey := hy.int_; subst ex ey
    exact fdiv_intW pins s σ H _ _ v u Q I rx ry ⟨_, _, rfl, rfl, hb.1, ci _ hb.2⟩
  | mod =>
    cases dx <;> cases dy <;> first | exact False.elim hb | skip
    have ex := hx.int_; have ey := hy.int_; subst ex ey
    exact op_modN pins s σ H _ _ v u Q I rx ry ⟨_, _, rfl, rfl, hb.1, ci _ hb.2⟩
  | pow =>
    cases dx <;> cases dy <;> first | exact False.elim hb | skip
    have ex := hx.int_; have ey := hy.int_; subst ex ey
    exact op_pow pins s σ H _ _ v u Q I rx ry ⟨_, _, rfl, rfl, hb.1, ci _ hb.2⟩
  | shl =>
    cases dx <;> cases dy <;> first | exact False.elim hb | skip
    have ex := hx.int_; have ey := hy.int_; subst ex ey
    exact op_shl pins s σ H _ _ v u Q I rx ry ⟨_, _, rfl, rfl, hb.1, ci _ hb.2⟩
  | shr =>
    cases dx <;> cases dy <;> first | exact False.elim hb | skip
    have ex := hx.int_; have ey := hy.int_; subst ex ey
    exact op_shr pins s σ H _ _ v u Q I rx ry ⟨_, _, rfl, rfl, hb.1, ci _ hb.2⟩
  | band =>
    cases dx <;> cases dy <;> first | exact False.elim hb | skip
    have ex := hx.int_; have ey := hy.int_; subst ex ey
    exact op_and pins s σ H _ _ v u Q I rx ry ⟨_, _, rfl, rfl, ci _ hb⟩
  | bor =>
    cases dx <;> cases dy <;> first | exact False.elim hb | skip
    have ex := hx.int_; have ey := hy.int_; subst ex ey
    exact op_or pins s σ H _ _ v u Q I rx ry ⟨_, _, rfl, rfl, ci _ hb⟩
end

/-- a comparison by data -/
def rCmp (K : PySem.W.Frag) (o : Co) : R2 := fun x y H Q => ∃ (S : Addr → Prop) (dx dy : D) (q : QD), Rp K S H dx x ∧ Rp K S H dy y ∧ cmpR o dx dy q ∧ ∀ b, q (.bool b) → Q (.bl b) H
section
variable {X : Cx}
theorem data_lt (hu : X.A.units + 64 < cLine) {pins : List (Addr × Obj)} {s : Shared} {σ : L2.St} {H : Hp} {x y : V} {v u : Value} {Q : VK} {S : Addr → Prop} {dx dy : D} (I : Inv X pins σ H s) (rx : RelV x v) (ry : RelV y u)
    (hx : Rp X.K S H dx x) (hy : Rp X.K S H dy y) (ok : LtOk dx dy) :
    (∀ k, k = W.dataLt dx dy → Q (.bl k) H → wpAny (model X.prog X.w) X.A (compareOp .Lt v u) (EP X pins σ Q) X.xe s) ∧
    (∀ k, k = W.dataLt dy dx → Q (.bl k) H → wpAny (model X.prog X.w) X.A (compareOp .Gt v u) (EP X pins σ Q) X.xe s) ∧
    (∀ k, k = (!W.dataLt dy dx) → Q (.bl k) H → wpAny (model X.prog X.w) X.A (compareOp .LtE v u) (EP X pins σ Q) X.xe s) ∧
    (∀ k, k = (!W.dataLt dx dy) → Q (.bl k) H → wpAny (model X.prog X.w) X.A (compareOp .GtE v u) (EP X pins σ Q) X.xe s) := by
  obtain ⟨⟨al, nn⟩, s1, s2⟩ := ok
  obtain ⟨as, r1⟩ := Dp.reads I dx x v (hx.dp _ _ s1) rx
  obtain ⟨bs, r2⟩ := Dp.reads I dy y u (hy.dp _ _ s2) ry
  have room := SeqAt.room_of_shaped (db := dy) s1 hu
  refine ⟨fun k e q => ?_, fun k e q => ?_, fun k e q => ?_, fun k e q => ?_⟩
  · subst e; exact W.lt_data r1 r2 al nn room ⟨.bl _, H, I, rfl, q⟩
  · subst e; exact W.gt_data r1 r2 al nn room ⟨.bl _, H, I, rfl, q⟩
  · subst e; exact W.le_data r1 r2 al nn room ⟨.bl _, H, I, rfl, q⟩
  · subst e; exact W.ge_data r1 r2 al nn room ⟨.bl _, H, I, rfl, q⟩
theorem data_eq (hu : X.A.units + 64 < cLine) {pins : List (Addr × Obj)} {s : Shared} {σ : L2.St} {H : Hp} {x y : V} {v u : Value} {Q : VK} {S : Addr → Prop} {dx dy : D} (I : Inv X pins σ H s) (rx : RelV x v) (ry : RelV y u)
    (hx : Rp X.K S H dx x) (hy : Rp X.K S H dy y) (ok : EqOk dx dy) :
    (Q (.bl (PyData.eqv dx dy)) H → wpAny (model X.prog X.w) X.A (compareOp .Eq v u) (EP X pins σ Q) X.xe s) ∧
    (Q (.bl (!PyData.eqv dx dy)) H → wpAny (model X.prog X.w) X.A (compareOp .NotEq v u) (EP X pins σ Q) X.xe s) :=
  ⟨fun q => op_eqD hu pins s σ H x y v u Q I rx ry ⟨dx, dy, hx.dp _ _ ok.1, hy.dp _ _ ok.2, ok.1, ok.2, q⟩,
   fun q => op_neD hu pins s σ H x y v u Q I rx ry ⟨dx, dy, hx.dp _ _ ok.1, hy.dp _ _ ok.2, ok.1, ok.2, q⟩⟩
theorem opCmp (hu : X.A.units + 64 < cLine) (o : Co) : OpR X (compareOp (toCo o)) (rCmp X.K o) := by
  intro pins s σ H x y v u Q I rx ry h
  obtain ⟨S, dx, dy, q, hx, hy, hc, cont⟩ := h
  have L := fun ok => data_lt (Q := Q) hu I rx ry hx hy ok
  have E := fun ok => data_eq (Q := Q) hu I rx ry hx hy ok
  unfold cmpR at hc
  split at hc
  · have ex := hx.int_; have ey := hy.int_; subst ex ey
    exact op_lt pins s σ H _ _ v u Q I rx ry ⟨_, _, rfl, rfl, cont _ hc⟩
  · have ex := hx.int_; have ey := hy.int_; subst ex ey
    exact op_le pins s σ H _ _ v u Q I rx ry ⟨_, _, rfl, rfl, cont _ hc⟩
  · have ex := hx.int_; have ey := hy.int_; subst ex ey
    exact op_gt pins s σ H _ _ v u Q I rx ry ⟨_, _, rfl, rfl, cont _ hc⟩
  · have ex := hx.int_; have ey := hy.int_; subst ex ey
    exact op_ge pins s σ H _ _ v u Q I rx ry ⟨_, _, rfl, rfl, cont _ hc⟩
  · have ex := hx.int_; have ey := hy.int_; subst ex ey
    refine op_eq pins s σ H _ _ v u Q I rx ry ⟨rfl, ?_⟩
    have e : ∀ i j : Int, decide (V.int i = V.int j) = decide (i = j) := fun i j => by rw [dec_int]; rfl
    rw [e]; exact cont _ hc
  · have ex := hx.int_; have ey := hy.int_; subst ex ey
    refine op_ne pins s σ H _ _ v u Q I rx ry ⟨rfl, ?_⟩
    have e : ∀ i j : Int, decide (V.int i = V.int j) = decide (i = j) := fun i j => by rw [dec_int]; rfl
    rw [e]; exact cont _ hc
  · have ex := hx.str_; have ey := hy.str_; subst ex ey
    refine op_eq pins s σ H _ _ v u Q I rx ry ⟨rfl, ?_⟩
    rw [dec_str]; exact cont _ hc
  · have ex := hx.str_; have ey := hy.str_; subst ex ey
    refine op_ne pins s σ H _ _ v u Q I rx ry ⟨rfl, ?_⟩
    rw [dec_str]; exact cont _ hc
  · exact (E hc.1).1 (cont _ hc.2)
  · exact (E hc.1).2 (cont _ hc.2)
  · exact (L hc.1).1 _ rfl (cont _ hc.2)
  · exact (L hc.1).2.1 _ rfl (cont _ hc.2)
  · exact (L hc.1).2.2.1 _ rfl (cont _ hc.2)
  · exact (L hc.1).2.2.2 _ rfl (cont _ hc.2)
theorem emp_of {K : PySem.W.Frag} {S : Addr → Prop} {H : Hp} {ds : List D} {xs : List V} (r : Rps K S H ds xs) : xs.isEmpty = ds.isEmpty := by
  have := r.length
  cases xs <;> cases ds <;> simp at this ⊢
/-- a value's truth by data -/
theorem tru_of {K : PySem.W.Frag} {S : Addr → Prop} {H : Hp} {d : D} {x : V} {Q : Bool → Prop} (h : Rp K S H d x) (t : truR d Q) : ∃ k, TruV K x H k ∧ Q k := by
  unfold truR at t
  split at t
  · have e := h.non_; subst e; exact ⟨_, rfl, t⟩
  · have e := h.bl_; subst e; exact ⟨_, rfl, t⟩
  · have e := h.int_; subst e; exact ⟨_, rfl, t⟩
  · have e := h.str_; subst e
    refine ⟨_, ⟨t.1, rfl⟩, ?_⟩
    have := t.2
    rename_i z
    have e : ((z.length : Int) != 0) = (z.length != 0) := by
      cases z.length with
      | zero => rfl
      | succ n => simp; omega
    rw [e]; exact this
  · obtain ⟨a, xs, rfl, _, ha, r⟩ := h.lst_
    refine ⟨!xs.isEmpty, .inl ⟨xs, SqL.of ha, rfl⟩, ?_⟩
    rw [emp_of r]; exact t
  · obtain ⟨a, xs, rfl, ha, r⟩ := h.tup_
    refine ⟨!xs.isEmpty, .inr (.inl ⟨xs, ha, rfl⟩), ?_⟩
    rw [emp_of r]; exact t
  · exact False.elim t
end
end Uq

set_option maxHeartbeats 1000000
/-! Uq, part e: how our slots lie in a frame. -/
namespace Uq
open PySem PySem.Spec PyProof.Rows L2

/-- a program's exception classes: their addresses, their fields -/
abbrev XA := Nat → Addr → Nat → Addr → Prop
abbrev xa0 : XA := fun _ _ _ _ => False
structure Pg where
  CA : Nat → Addr
  flds : Nat → List Str
  xa : XA
  rz : List Nat
def XRp (K : PySem.W.Frag) (P : Pg) (H : Hp) (k : Nat) (fs : List D) (cv : Value) (dx : Option Addr) : Prop :=
  k ∈ P.rz ∧ ∃ dd vs, cv = .ref (P.CA k) ∧ dx = some dd ∧ H dd = some (.xd ((P.flds k).zip vs).reverse) ∧ noLs fs = true ∧ Rps K (fun _ => True) H fs vs ∧ fs.length = (P.flds k).length
abbrev Ow := Nat → List Addr
def SS (S0 : Addr → Prop) (LL : Ow) (a : Addr) : Prop := S0 a ∧ ∀ j, a ∉ LL j
def NmS (S0 : Addr → Prop) (LL : Ow) (nm : List Nat) (a : Addr) : Prop := S0 a ∧ ∀ i, a ∈ LL i → i ∈ nm
def RNl (K : PySem.W.Frag) (S : Addr → Prop) (H : Hp) : List Addr → List (List D) → Prop
  | [], [] => True
  | b :: bs, ds :: dss => (∃ xs, H b = some (.lst xs) ∧ Rps K S H ds xs) ∧ RNl K S H bs dss
  | _, _ => False
def RSl (K : PySem.W.Frag) (P : Pg) (i : Nat) (S : Addr → Prop) (H : Hp) (L : List Addr) (s : Sl) (v : Option V) : Prop :=
  match s with
  | .no => L = []
  | .va d => L = [] ∧ ∃ x, v = some x ∧ Rp K S H d x
  | .ol ds => ∃ a xs, v = some (.ref a) ∧ L = [a] ∧ H a = some (.lst xs) ∧ Rps K S H ds xs
  | .nl dss => ∃ a bs, v = some (.ref a) ∧ L = a :: bs ∧ (a :: bs).Nodup ∧ H a = some (.lst (bs.map V.ref)) ∧ RNl K S H bs dss
  | .xc c fs => L = [] ∧ ∃ a dd vs, v = some (.ref a) ∧ P.xa i a c dd ∧ H dd = some (.xd ((P.flds c).zip vs).reverse) ∧ Rps K S H fs vs ∧ fs.length = (P.flds c).length
theorem RNl.mono {K : PySem.W.Frag} {S S' : Addr → Prop} {H H' : Hp} (hS : ∀ a o, H a = some o → S a → S' a) (k : Kp S H H') : ∀ {bs : List Addr} {dss : List (List D)}, (∀ b ∈ bs, H' b = H b) → RNl K S H bs dss → RNl K S' H' bs dss
  | [], [], _, _ => trivial
  | [], _ :: _, _, h => h.elim
  | _ :: _, [], _, h => h.elim
  | b :: bs, ds :: dss, ko, ⟨⟨xs, hb, r⟩, h⟩ => ⟨⟨xs, (ko b List.mem_cons_self).trans hb, Rps.mono hS k _ _ r⟩, RNl.mono hS k (fun c hc => ko c (List.mem_cons_of_mem _ hc)) h⟩
theorem RNl.len {K : PySem.W.Frag} {S : Addr → Prop} {H : Hp} : ∀ {bs : List Addr} {dss : List (List D)}, RNl K S H bs dss → bs.length = dss.length
  | [], [], _ => rfl
  | [], _ :: _, h => h.elim
  | _ :: _, [], h => h.elim
  | b :: bs, ds :: dss, h => by simp [h.2.len]
theorem RNl.lst {K : PySem.W.Frag} {S : Addr → Prop} {H : Hp} : ∀ {bs : List Addr} {dss : List (List D)}, RNl K S H bs dss → ∀ b ∈ bs, ∃ xs, H b = some (.lst xs)
  | [], _, _, b, hb => nomatch hb
  | _ :: _, [], h, _, _ => h.elim
  | c :: bs, ds :: dss, h, b, hb => by
    rcases List.mem_cons.mp hb with e | hb
    · rw [e]; obtain ⟨xs, hx, _⟩ := h.1; exact ⟨xs, hx⟩
    · exact h.2.lst b hb
theorem RNl.get {K : PySem.W.Frag} {S : Addr → Prop} {H : Hp} : ∀ {bs : List Addr} {dss : List (List D)} {n : Nat} {ds : List D}, RNl K S H bs dss → dss[n]? = some ds → ∃ b xs, bs[n]? = some b ∧ H b = some (.lst xs) ∧ Rps K S H ds xs
  | [], [], n, _, _, e => by simp at e
  | [], _ :: _, _, _, h, _ => h.elim
  | _ :: _, [], _, _, h, _ => h.elim
  | b :: bs, ds :: dss, 0, _, h, e => by
    simp at e
    subst e
    obtain ⟨xs, hx, r⟩ := h.1
    exact ⟨b, xs, rfl, hx, r⟩
  | b :: bs, ds :: dss, n + 1, _, h, e => by
    simp at e
    obtain ⟨c, xs, h1, h2, h3⟩ := h.2.get e
    exact ⟨c, xs, by simpa using h1, h2, h3⟩
/-- one of them is changed -/
theorem RNl.upd {K : PySem.W.Frag} {S : Addr → Prop} {H : Hp} {b : Addr} {xs' : List V} {ds' : List D} (kp : Kp S H (upd H b (.lst xs'))) (r' : Rps K S (upd H b (.lst xs')) ds' xs') : ∀ {bs : List Addr} {dss : List (List D)} {n : Nat}, bs.Nodup → bs[n]? = some b → RNl K S H bs dss → RNl K S (upd H b (.lst xs')) bs (dss.set n ds')
  | [], _, _, _, e, _ => by simp at e
  | _ :: _, [], _, _, _, h => h.elim
  | c :: bs, ds :: dss, 0, nd, e, h => by
    simp at e
    subst e
    refine ⟨⟨xs', upd_same, r'⟩, RNl.mono (fun _ _ _ z => z) kp (fun d hd => ?_) h.2⟩
    rw [upd_ne]
    rintro rfl
    exact (List.nodup_cons.mp nd).1 hd
  | c :: bs, ds :: dss, n + 1, nd, e, h => by
    simp at e
    have hne : c ≠ b := fun z => (List.nodup_cons.mp nd).1 (by rw [z]; exact List.mem_of_getElem? e)
    obtain ⟨⟨xs, hx, r⟩, h2⟩ := h
    exact ⟨⟨xs, by rw [upd_ne hne]; exact hx, Rps.mono (fun _ _ _ z => z) kp _ _ r⟩, RNl.upd kp r' (List.nodup_cons.mp nd).2 e h2⟩
theorem RNl.snoc {K : PySem.W.Frag} {S : Addr → Prop} {H : Hp} {b : Addr} (hb : H b = some (.lst [])) : ∀ {bs : List Addr} {dss : List (List D)}, RNl K S H bs dss → RNl K S H (bs ++ [b]) (dss ++ [[]])
  | [], [], _ => ⟨⟨[], hb, .nil⟩, trivial⟩
  | [], _ :: _, h => h.elim
  | _ :: _, [], h => h.elim
  | _ :: bs, _ :: dss, h => ⟨h.1, h.2.snoc hb⟩
/-- as shared lists -/
theorem RNl.shared {K : PySem.W.Frag} {S : Addr → Prop} {H : Hp} : ∀ {bs : List Addr} {dss : List (List D)}, (∀ b ∈ bs, S b) → RNl K S H bs dss → Rps K S H (dss.map .list) (bs.map V.ref)
  | [], [], _, _ => .nil
  | [], _ :: _, _, h => h.elim
  | _ :: _, [], _, h => h.elim
  | b :: bs, ds :: dss, hs, h => by
    refine .cons ?_ (RNl.shared (fun c hc => hs c (List.mem_cons_of_mem _ hc)) h.2)
    obtain ⟨xs, hx, r⟩ := h.1
    simp only [Rp]
    exact ⟨b, xs, rfl, hs b List.mem_cons_self, hx, r⟩
structure Rel (K : PySem.W.Frag) (P : Pg) (S0 : Addr → Prop) (LL : Ow) (ρ : Env) (σ : L2.St) (H : Hp) : Prop where
  ln : ρ.length = σ.length
  slot : ∀ i s, ρ[i]? = some s → RSl K P i (SS S0 LL) H (LL i) s (σ[i]?.join)
  dj : ∀ i j a, a ∈ LL i → a ∈ LL j → i = j
  own : ∀ i a, a ∈ LL i → S0 a ∧ ∃ xs, H a = some (.lst xs)
  fr : ∀ a, H a = none → S0 a
def Lset (LL : Ow) (i : Nat) (L : List Addr) : Ow := fun j => if j = i then L else LL j
theorem Lset_same {LL : Ow} {i : Nat} {L : List Addr} : Lset LL i L i = L := by simp [Lset]
theorem Lset_ne {LL : Ow} {i j : Nat} {L : List Addr} (h : j ≠ i) : Lset LL i L j = LL j := by simp [Lset, h]
/-- the frame: what is not owned stays; what is owned later was owned or is new -/
def Fm (LL : Ow) (H : Hp) (LL' : Ow) (H' : Hp) : Prop := (∀ a o, H a = some o → (∀ j, a ∉ LL j) → H' a = some o) ∧ (∀ j a, a ∈ LL' j → (∃ i, a ∈ LL i) ∨ H a = none)
theorem Fm.refl {LL : Ow} {H : Hp} : Fm LL H LL H := ⟨fun _ _ h _ => h, fun j _ h => .inl ⟨j, h⟩⟩
theorem Fm.of_same {LL : Ow} {H H' : Hp} (h : Same H H') : Fm LL H LL H' := ⟨fun a o e _ => h a o e, fun j _ h => .inl ⟨j, h⟩⟩
theorem Fm.trans {LL LL1 LL2 : Ow} {H H1 H2 : Hp} (f : Fm LL H LL1 H1) (g : Fm LL1 H1 LL2 H2) : Fm LL H LL2 H2 := by
  have nin : ∀ a o, H a = some o → (∀ j, a ∉ LL j) → ∀ j, a ∉ LL1 j := fun a o e n j hj => by
    rcases f.2 j a hj with ⟨i, h⟩ | h
    · exact n i h
    · rw [e] at h; cases h
  refine ⟨fun a o e n => g.1 a o (f.1 a o e n) (nin a o e n), fun j a h => ?_⟩
  rcases g.2 j a h with ⟨i, h⟩ | h
  · exact f.2 i a h
  · cases q : H a with
    | none => exact .inr rfl
    | some o =>
      by_cases n : ∀ j, a ∉ LL j
      · rw [f.1 a o q n] at h; cases h
      · exact .inl (Classical.byContradiction fun z => n fun j hj => z ⟨j, hj⟩)
theorem same_none {H H' : Hp} (e : Same H H') {l : Addr} (h : H' l = none) : H l = none := e.free h

section
variable {K : PySem.W.Frag} {P : Pg} {S0 : Addr → Prop} {LL : Ow} {ρ : Env} {σ : L2.St} {H H' : Hp}
theorem SS.nm {nm : List Nat} {a : Addr} (h : SS S0 LL a) : NmS S0 LL nm a := ⟨h.1, fun i hi => absurd hi (h.2 i)⟩
theorem NmS.sub {nm nm' : List Nat} (hs : ∀ i ∈ nm, i ∈ nm') {a : Addr} (h : NmS S0 LL nm a) : NmS S0 LL nm' a := ⟨h.1, fun i hi => hs i (h.2 i hi)⟩
theorem RSl.mono {i : Nat} {S S' : Addr → Prop} {L : List Addr} {s : Sl} {v : Option V} (hS : ∀ a o, H a = some o → S a → S' a) (k : Kp S H H') (ko : ∀ a ∈ L, H' a = H a) (h : RSl K P i S H L s v) : RSl K P i S' H' L s v := by
  cases s with
  | no => exact h
  | va d =>
    obtain ⟨h1, x, e, r⟩ := h
    exact ⟨h1, x, e, Rp.mono hS k _ _ r⟩
  | ol ds =>
    obtain ⟨a, xs, e, eL, ha, r⟩ := h
    exact ⟨a, xs, e, eL, (ko a (by rw [eL]; exact List.mem_cons_self)).trans ha, Rps.mono hS k _ _ r⟩
  | nl dss =>
    obtain ⟨a, bs, e, eL, nd, ha, r⟩ := h
    exact ⟨a, bs, e, eL, nd, (ko a (by rw [eL]; exact List.mem_cons_self)).trans ha, r.mono hS k fun b hb => ko b (by rw [eL]; exact List.mem_cons_of_mem _ hb)⟩
  | xc c fs =>
    obtain ⟨eL, a, dd, vs, e, x, hd, r, l⟩ := h
    exact ⟨eL, a, dd, vs, e, x, k dd _ hd (.inr fun _ z => HO.noConfusion z), Rps.mono hS k _ _ r, l⟩
theorem Rel.same (R : Rel K P S0 LL ρ σ H) (s : Same H H') : Rel K P S0 LL ρ σ H' where
  ln := R.ln
  slot := fun i t e => (R.slot i t e).mono (fun _ _ _ h => h) (.of_same s) fun a ha => by
    obtain ⟨_, xs, e⟩ := R.own i a ha
    rw [e, s a _ e]
  dj := R.dj
  own := fun i a h => ⟨(R.own i a h).1, let ⟨xs, e⟩ := (R.own i a h).2; ⟨xs, s a _ e⟩⟩
  fr := fun a h => R.fr a (same_none s h)
/-- a slot's content is put -/
theorem Rel.put (R : Rel K P S0 LL ρ σ H) (i : Nat) (s : Sl) (v : Option V) (L : List Addr) (hS : ∀ b o, H b = some o → SS S0 LL b → SS S0 (Lset LL i L) b) (kp : Kp (SS S0 LL) H H')
    (ko : ∀ j, j ≠ i → ∀ a ∈ LL j, H' a = H a) (new : RSl K P i (SS S0 (Lset LL i L)) H' L s v) (ownL : ∀ a ∈ L, S0 a ∧ (∃ xs, H' a = some (.lst xs)) ∧ ∀ j, j ≠ i → a ∉ LL j)
    (hf : ∀ a, H' a = none → H a = none) : Rel K P S0 (Lset LL i L) (ρ.set i s) (σ.set i v) H' where
  ln := by rw [List.length_set, List.length_set]; exact R.ln
  slot := fun j t e => by
    by_cases hj : j = i
    · subst hj
      have hl : j < ρ.length := by
        have := (List.getElem?_eq_some_iff.mp e).1
        rwa [List.length_set] at this
      rw [List.getElem?_set_self hl] at e
      cases e
      rw [List.getElem?_set_self (by rw [← R.ln]; exact hl), Lset_same]
      exact new
    · rw [List.getElem?_set_ne (Ne.symm hj)] at e
      rw [List.getElem?_set_ne (Ne.symm hj), Lset_ne hj]
      exact (R.slot j t e).mono hS kp (ko j hj)
  dj := fun j k a h1 h2 => by
    by_cases hj : j = i
    · by_cases hk : k = i
      · rw [hj, hk]
      · subst hj
        rw [Lset_same] at h1
        rw [Lset_ne hk] at h2
        exact absurd h2 ((ownL a h1).2.2 k hk)
    · rw [Lset_ne hj] at h1
      by_cases hk : k = i
      · subst hk
        rw [Lset_same] at h2
        exact absurd h1 ((ownL a h2).2.2 j hj)
      · rw [Lset_ne hk] at h2
        exact R.dj j k a h1 h2
  own := fun j a h => by
    by_cases hj : j = i
    · subst hj
      rw [Lset_same] at h
      exact ⟨(ownL a h).1, (ownL a h).2.1⟩
    · rw [Lset_ne hj] at h
      obtain ⟨s1, xs, e⟩ := R.own j a h
      exact ⟨s1, xs, by rw [ko j hj a h]; exact e⟩
  fr := fun a h => R.fr a (hf a h)
theorem SS.less {i : Nat} {a : Addr} (h : SS S0 LL a) : SS S0 (Lset LL i []) a := ⟨h.1, fun j hj => by
  by_cases e : j = i
  · subst e; rw [Lset_same] at hj; cases hj
  · rw [Lset_ne e] at hj; exact h.2 j hj⟩
/-- .. a value -/
theorem Rel.setVa (R : Rel K P S0 LL ρ σ H) (i : Nat) {d : D} {x : V} (h : Rp K (SS S0 LL) H d x) : Rel K P S0 (Lset LL i []) (ρ.set i (.va d)) (σ.set i (some x)) H :=
  R.put i _ _ [] (fun _ _ _ h => h.less) (.of_same (Same.refl H)) (fun _ _ _ _ => rfl) ⟨rfl, x, rfl, h.wide fun _ _ _ h => h.less⟩ (fun _ h => nomatch h) fun _ h => h
/-- .. nothing -/
theorem Rel.setNo (R : Rel K P S0 LL ρ σ H) (i : Nat) (v : Option V) : Rel K P S0 (Lset LL i []) (ρ.set i .no) (σ.set i v) H :=
  R.put i _ _ [] (fun _ _ _ h => h.less) (.of_same (Same.refl H)) (fun _ _ _ _ => rfl) rfl (fun _ h => nomatch h) fun _ h => h
theorem Fm.less {i : Nat} : Fm LL H (Lset LL i []) H := ⟨fun _ _ h _ => h, fun j a h => by
  by_cases e : j = i
  · subst e; rw [Lset_same] at h; cases h
  · rw [Lset_ne e] at h; exact .inl ⟨j, h⟩⟩
/-- .. a new list that nothing else knows: Hs is the heap ahead of its making -/
theorem Rel.setOl {Hs : Hp} (R : Rel K P S0 LL ρ σ Hs) (s : Same Hs H) (i : Nat) {ds : List D} {a : Addr} {xs : List V} (ha : Hs a = none) (hl : H a = some (.lst xs)) (r : Rps K (fun b => SS S0 LL b ∧ b ≠ a) H ds xs) :
    Rel K P S0 (Lset LL i [a]) (ρ.set i (.ol ds)) (σ.set i (some (.ref a))) H := by
  have na : ∀ j, a ∉ LL j := fun j h => by
    obtain ⟨_, ys, e⟩ := R.own j a h
    rw [ha] at e; cases e
  have hS : ∀ b, SS S0 LL b → b ≠ a → SS S0 (Lset LL i [a]) b := fun b h n => ⟨h.1, fun j hj => by
    by_cases e : j = i
    · subst e; rw [Lset_same] at hj; exact n (List.mem_singleton.mp hj)
    · rw [Lset_ne e] at hj; exact h.2 j hj⟩
  refine R.put i _ _ [a] (fun b o e h => hS b h (ne_of_none e ha)) (.of_same s) (fun j _ b hb => ?_) ⟨a, xs, rfl, rfl, hl, r.wide fun b _ _ h => hS b h.1 h.2⟩ (fun b hb => ?_) fun b h => same_none s h
  · obtain ⟨_, ys, e⟩ := R.own j b hb
    rw [e, s b _ e]
  · rw [List.mem_singleton.mp hb]
    exact ⟨R.fr a ha, ⟨xs, hl⟩, fun j _ => na j⟩
theorem Fm.more {Hs : Hp} {i : Nat} {a : Addr} (s : Same Hs H) (ha : Hs a = none) : Fm LL Hs (Lset LL i [a]) H := ⟨fun b o e _ => s b o e, fun j b h => by
  by_cases e : j = i
  · subst e; rw [Lset_same] at h; rw [List.mem_singleton.mp h]; exact .inr ha
  · rw [Lset_ne e] at h; exact .inl ⟨j, h⟩⟩
/-- .. the own list is changed -/
theorem Rel.chg (R : Rel K P S0 LL ρ σ H) (i : Nat) {ds ds' : List D} (e : ρ[i]? = some (.ol ds)) : ∃ a xs, σ[i]? = some (some (.ref a)) ∧ H a = some (.lst xs) ∧ Rps K (SS S0 LL) H ds xs ∧
    ∀ (xs' : List V) (H1 : Hp), Same H H1 → Rps K (SS S0 LL) H1 ds' xs' → Rel K P S0 LL (ρ.set i (.ol ds')) σ (upd H1 a (.lst xs')) ∧ Fm LL H LL (upd H1 a (.lst xs')) := by
  obtain ⟨a, xs, ev, eL, ha, r⟩ := R.slot i _ e
  have es : σ[i]? = some (some (.ref a)) := by
    cases q : σ[i]? with
    | none => rw [q] at ev; cases ev
    | some w => rw [q] at ev; exact congrArg some ev
  refine ⟨a, xs, es, ha, r, fun xs' H1 s r' => ?_⟩
  have R1 := R.same s
  have na : ∀ b, SS S0 LL b → b ≠ a := fun b h z => h.2 i (by rw [eL, z]; exact List.mem_cons_self)
  have ha1 : H1 a = some (.lst xs) := s a _ ha
  have kp : Kp (SS S0 LL) H1 (upd H1 a (.lst xs')) := fun b o eb h => by
    rw [upd_ne]
    · exact eb
    · rintro rfl
      rcases h with h | h
      · exact na _ h rfl
      · rw [ha1] at eb; cases eb; exact h _ rfl
  have eLL : Lset LL i (LL i) = LL := by
    funext j
    by_cases ej : j = i
    · subst ej; rw [Lset_same]
    · rw [Lset_ne ej]
  have hsig : σ.set i (some (.ref a)) = σ := by
    apply List.ext_getElem?
    intro j
    by_cases ej : i = j
    · subst ej
      rw [List.getElem?_set_self (List.getElem?_eq_some_iff.mp es).1, es]
    · rw [List.getElem?_set_ne ej]
  have Z := R1.put (H' := upd H1 a (.lst xs')) i (.ol ds') (some (.ref a)) (LL i) (fun b _ _ h => by rw [eLL]; exact h) kp (fun j hj b hb => ?_) ?_ (fun b hb => ?_) (fun b h => ?_)
  · rw [eLL, hsig] at Z
    refine ⟨Z, fun b o eb h => ?_, fun j b h => .inl ⟨j, h⟩⟩
    rw [upd_ne]
    · exact s b o eb
    · rintro rfl
      exact h i (by rw [eL]; exact List.mem_cons_self)
  · rw [upd_ne]
    rintro rfl
    exact hj (R.dj j i _ hb (by rw [eL]; exact List.mem_cons_self))
  · rw [eLL]
    exact ⟨a, xs', rfl, eL, upd_same, Rps.mono (fun _ _ _ h => h) kp _ _ r'⟩
  · rw [eL] at hb
    have e1 := List.mem_singleton.mp hb
    subst e1
    refine ⟨(R.own i b (by rw [eL]; exact List.mem_cons_self)).1, ⟨xs', upd_same⟩, fun j hj hb' => hj (R.dj j i b hb' (by rw [eL]; exact List.mem_cons_self))⟩
  · by_cases eb : b = a
    · subst eb; rw [upd_same] at h; cases h
    · rw [upd_ne eb] at h; exact h
/-- lists that are shared from here on -/
def Lfrz (LL : Ow) : List Nat → Ow
  | [] => LL
  | i :: is => Lfrz (Lset LL i []) is
theorem Lfrz_in : ∀ {is : List Nat} {LL : Ow} {j : Nat} {a : Addr}, a ∈ Lfrz LL is j → a ∈ LL j ∧ j ∉ is
  | [], LL, j, a, h => ⟨h, by simp⟩
  | i :: is, LL, j, a, h => by
    obtain ⟨h1, h2⟩ := Lfrz_in (is := is) h
    by_cases e : j = i
    · subst e; rw [Lset_same] at h1; cases h1
    · rw [Lset_ne e] at h1
      exact ⟨h1, by simp only [List.mem_cons, not_or]; exact ⟨e, h2⟩⟩
theorem Rel.frz1 (R : Rel K P S0 LL ρ σ H) (i : Nat) : Rel K P S0 (Lset LL i []) (ρ.modify i Sl.frz) σ H where
  ln := by rw [List.length_modify]; exact R.ln
  slot := fun j t e => by
    rw [List.getElem?_modify] at e
    cases q : ρ[j]? with
    | none => rw [q] at e; cases e
    | some s0 =>
      rw [q] at e
      have R0 := R.slot j s0 q
      by_cases ej : i = j
      · subst ej
        have et : t = s0.frz := by simpa using e.symm
        subst et
        rw [Lset_same]
        have R0' := R0.mono (S' := SS S0 (Lset LL i [])) (H' := H) (fun _ _ _ h => h.less) (.of_same (Same.refl H)) (fun _ _ => rfl)
        cases s0 with
        | no => rfl
        | va d => exact ⟨rfl, R0'.2⟩
        | xc c fs => exact ⟨rfl, R0'.2⟩
        | nl dss =>
          obtain ⟨a, bs, ev, eL, nd, ha, r⟩ := R0'
          refine ⟨rfl, .ref a, ev, ?_⟩
          have own : ∀ b ∈ LL i, SS S0 (Lset LL i []) b := fun b hb => ⟨(R.own i b hb).1, fun k hk => by
            by_cases ek : k = i
            · subst ek; rw [Lset_same] at hk; cases hk
            · rw [Lset_ne ek] at hk
              exact ek (R.dj k i b hk hb)⟩
          simp only [Rp]
          exact ⟨a, _, rfl, own a (by rw [eL]; exact List.mem_cons_self), ha, r.shared fun b hb => own b (by rw [eL]; exact List.mem_cons_of_mem _ hb)⟩
        | ol ds =>
          obtain ⟨a, xs, ev, eL, ha, r⟩ := R0'
          refine ⟨rfl, .ref a, ev, ?_⟩
          simp only [Rp]
          refine ⟨a, xs, rfl, ⟨(R.own i a (by rw [eL]; exact List.mem_cons_self)).1, fun k hk => ?_⟩, ha, r⟩
          by_cases ek : k = i
          · subst ek; rw [Lset_same] at hk; cases hk
          · rw [Lset_ne ek] at hk
            exact ek (R.dj k i a hk (by rw [eL]; exact List.mem_cons_self))
      · have et : t = s0 := by
          have e' : some (if i = j then s0.frz else s0) = some t := e
          rw [if_neg ej] at e'
          exact (Option.some.inj e').symm
        subst et
        rw [Lset_ne (Ne.symm ej)]
        exact R0.mono (fun _ _ _ h => h.less) (.of_same (Same.refl H)) fun _ _ => rfl
  dj := fun j k a h1 h2 => by
    by_cases ej : j = i
    · subst ej; rw [Lset_same] at h1; cases h1
    · by_cases ek : k = i
      · subst ek; rw [Lset_same] at h2; cases h2
      · rw [Lset_ne ej] at h1
        rw [Lset_ne ek] at h2
        exact R.dj j k a h1 h2
  own := fun j a h => by
    by_cases ej : j = i
    · subst ej; rw [Lset_same] at h; cases h
    · rw [Lset_ne ej] at h; exact R.own j a h
  fr := R.fr
theorem Rel.frzL : ∀ (is : List Nat) {LL : Ow} {ρ : Env}, Rel K P S0 LL ρ σ H → Rel K P S0 (Lfrz LL is) (Uq.frzL is ρ) σ H
  | [], _, _, R => R
  | i :: is, _, _, R => Rel.frzL is (R.frz1 i)
theorem Fm.frz {is : List Nat} : Fm LL H (Lfrz LL is) H := ⟨fun _ _ h _ => h, fun j _ h => .inl ⟨j, (Lfrz_in h).1⟩⟩
theorem NmS.frz {is : List Nat} {a : Addr} (h : NmS S0 LL is a) : SS S0 (Lfrz LL is) a := ⟨h.1, fun j hj => (Lfrz_in hj).2 (h.2 j (Lfrz_in hj).1)⟩
theorem SS.frz {is : List Nat} {a : Addr} (h : SS S0 LL a) : SS S0 (Lfrz LL is) a := ⟨h.1, fun j hj => h.2 j (Lfrz_in hj).1⟩
theorem kil_get : ∀ (is : List Nat) (ρ : Env) (j : Nat), (j ∉ is → (Uq.kil is ρ)[j]? = ρ[j]?) ∧ (j ∈ is → ∀ s, (Uq.kil is ρ)[j]? = some s → s = .no)
  | [], ρ, j => ⟨fun _ => rfl, fun h => nomatch h⟩
  | i :: is, ρ, j => by
    have ih := kil_get is (ρ.set i .no) j
    refine ⟨fun h => ?_, fun h s e => ?_⟩
    · simp only [List.mem_cons, not_or] at h
      show (Uq.kil is (ρ.set i .no))[j]? = _
      rw [ih.1 h.2, List.getElem?_set_ne (Ne.symm h.1)]
    · have e : (Uq.kil is (ρ.set i .no))[j]? = some s := e
      by_cases hj : j ∈ is
      · exact ih.2 hj s e
      · rw [ih.1 hj] at e
        have ej : j = i := (List.mem_cons.mp h).resolve_right hj
        subst ej
        by_cases hl : j < ρ.length
        · rw [List.getElem?_set_self hl] at e; cases e; rfl
        · rw [List.getElem?_eq_none (by rw [List.length_set]; omega)] at e; cases e
theorem kil_length : ∀ (is : List Nat) (ρ : Env), (Uq.kil is ρ).length = ρ.length
  | [], _ => rfl
  | i :: is, ρ => by show (Uq.kil is (ρ.set i .no)).length = _; rw [kil_length is, List.length_set]
theorem Lfrz_at : ∀ (is : List Nat) (LL : Ow) (j : Nat), Lfrz LL is j = if j ∈ is then [] else LL j
  | [], LL, j => by simp [Lfrz]
  | i :: is, LL, j => by
    show Lfrz (Lset LL i []) is j = _
    rw [Lfrz_at is]
    by_cases h : j ∈ is
    · simp [h]
    · by_cases e : j = i
      · subst e; simp [h, Lset_same]
      · simp [h, e, Lset_ne e]
/-- nothing known of these slots -/
theorem Rel.kil (is : List Nat) {σ' : L2.St} (R : Rel K P S0 LL ρ σ H) (hl : σ'.length = σ.length) (hs : ∀ j, j ∉ is → σ'[j]? = σ[j]?) : Rel K P S0 (Lfrz LL is) (Uq.kil is ρ) σ' H where
  ln := by rw [kil_length, hl]; exact R.ln
  slot := fun j t e => by
    rw [Lfrz_at]
    by_cases h : j ∈ is
    · rw [if_pos h, (kil_get is ρ j).2 h t e]
      rfl
    · rw [(kil_get is ρ j).1 h] at e
      rw [if_neg h, hs j h]
      exact (R.slot j t e).mono (fun _ _ _ z => z.frz) (.of_same (Same.refl H)) fun _ _ => rfl
  dj := fun j k a h1 h2 => R.dj j k a (Lfrz_in h1).1 (Lfrz_in h2).1
  own := fun j a h => R.own j a (Lfrz_in h).1
  fr := R.fr
end
end Uq

set_option maxHeartbeats 1000000
/-! Uq, part f: the expressions' readings. -/
namespace Uq
open PySem PySem.Spec PyProof.Rows L2

section
variable (K : PySem.W.Frag) (P : Pg) (cl : Cl) (W : WX)
def tE (c : C) : TE := fun σ H Q => ∃ S0 LL ρ q e, Rel K P S0 LL ρ σ H ∧ wE cl c ρ q e ∧ (∀ d v H', Same H H' → Res K (NmS S0 LL (nms c)) H H' (fresh c) d v → q d → Q v H') ∧
  (∀ k fs cv dx H', Same H H' → XRp K P H' k fs cv dx → e k fs → W cv dx σ H')
def tEs (cs : List C) : TA := fun σ H Q => ∃ S0 LL ρ q e, Rel K P S0 LL ρ σ H ∧ wEs cl cs ρ q e ∧ (∀ ds vs H', Same H H' → Rps K (NmS S0 LL (nmsL cs)) H' ds vs → q ds → Q vs H') ∧
  (∀ k fs cv dx H', Same H H' → XRp K P H' k fs cv dx → e k fs → W cv dx σ H')
def tT (c : C) : TT := fun σ H Q => ∃ S0 LL ρ q e, Rel K P S0 LL ρ σ H ∧ wE cl c ρ q e ∧ (∀ d H', Same H H' → q d → truR d fun b => Q b H') ∧
  (∀ k fs cv dx H', Same H H' → XRp K P H' k fs cv dx → e k fs → W cv dx σ H')
end
theorem peI {X : Cx} {e : Expr} {t t' : TE} (h : PE X e t) (i : ∀ σ H Q, t' σ H Q → t σ H Q) : PE X e t' := ⟨fun pins s σ H Q I q => h.run pins s σ H Q I (i σ H Q q)⟩
theorem paI {X : Cx} {e : List Expr} {t t' : TA} (h : PA X e t) (i : ∀ σ H Q, t' σ H Q → t σ H Q) : PA X e t' := ⟨fun pos pins s σ H Q I q => h.run pos pins s σ H Q I (i σ H Q q)⟩
theorem ptI {X : Cx} {e : Expr} {t t' : TT} (h : PT X e t) (i : ∀ σ H Q, t' σ H Q → t σ H Q) : PT X e t' := ⟨fun pins s σ H Q I q => h.run pins s σ H Q I (i σ H Q q)⟩

section
variable {K : PySem.W.Frag} {P : Pg} {cl : Cl} {W : WX} {S0 : Addr → Prop} {LL : Ow} {ρ : Env} {σ : L2.St} {H H1 H2 H' : Hp} {S : Addr → Prop} {d : D} {v : V} {fr : Bool}
theorem Res.from (s : Same H H1) (h : Res K S H1 H' fr d v) : Res K S H H' fr d v := ⟨h.1, fun f ds e => let ⟨a, vs, e1, e2, r⟩ := h.2 f ds e; ⟨a, vs, e1, same_none s e2, r⟩⟩
theorem Res.any {fr' : Bool} (h : Res K S H H' true d v) : Res K S H H' fr' d v := ⟨h.1, fun _ ds e => h.2 rfl ds e⟩
theorem Res.sub {S' : Addr → Prop} (hS : ∀ a, S a → S' a) (h : Res K S H H' fr d v) : Res K S' H H' fr d v := ⟨h.1.wide fun a _ _ q => hS a q, fun f ds e =>
  let ⟨a, vs, e1, e2, e3, r⟩ := h.2 f ds e; ⟨a, vs, e1, e2, e3, r.wide fun b _ _ q => ⟨hS b q.1, q.2⟩⟩⟩
theorem Res.fls (h : Rp K S H' d v) : Res K S H H' false d v := ⟨h, fun f => nomatch f⟩
theorem Rel.nmF (R : Rel K P S0 LL ρ σ H) (s : Same H H1) {nm : List Nat} : ∀ a, H1 a = none → NmS S0 LL nm a := fun a h => by
  have h0 := same_none s h
  refine ⟨R.fr a h0, fun i hi => ?_⟩
  obtain ⟨_, xs, e⟩ := R.own i a hi
  rw [h0] at e; cases e
theorem sq_ {H0 H1 H2 : Hp} (a : Same H0 H1) (b : Same H1 H2) : Same H0 H2 := a.trans b
end

/-! ### names and constants -/
section
variable {X : Cx} {P : Pg} {cl : Cl} {W : WX}
theorem e_var {i : Nat} {x : Str} {pos : Pos} (hN : X.N[i]? = some x) (hv : Vis X.env.scope x) (hd : (x == ("__debug__" : Str)) = false) (hcd : (x == ("__classdict__" : Str)) = false) : PE X (.Name x pos) (tE X.K P cl W (.var i)) := by
  refine peI (pe_var hN hv hd hcd) fun σ H Q h => ?_
  obtain ⟨S0, LL, ρ, q, e, R, hw, hq, _⟩ := h
  unfold wE at hw
  cases q1 : ρ[i]? with
  | none => rw [q1] at hw; exact hw.elim
  | some s =>
    rw [q1] at hw
    have r := R.slot i s q1
    cases s with
    | no => exact hw.elim
    | xc c fs => exact hw.elim
    | va d =>
      obtain ⟨_, y, ey, ry⟩ := r
      have es : σ[i]? = some (some y) := by
        cases q2 : σ[i]? with
        | none => rw [q2] at ey; cases ey
        | some w => rw [q2] at ey; exact congrArg some ey
      exact ⟨y, es, hq d y H (Same.refl H) (.fls (ry.wide fun _ _ _ z => z.nm)) hw⟩
    | nl dss =>
      obtain ⟨a, bs, ey, eL, nd, ha, ry⟩ := r
      have es : σ[i]? = some (some (.ref a)) := by
        cases q2 : σ[i]? with
        | none => rw [q2] at ey; cases ey
        | some w => rw [q2] at ey; exact congrArg some ey
      refine ⟨_, es, hq (.list (dss.map .list)) _ H (Same.refl H) (.fls ?_) hw⟩
      have own : ∀ b ∈ LL i, NmS S0 LL [i] b := fun b hb => ⟨(R.own i b hb).1, fun j hj => by
        rw [R.dj j i b hj hb]
        exact List.mem_cons_self⟩
      simp only [Rp]
      exact ⟨a, _, rfl, own a (by rw [eL]; exact List.mem_cons_self), ha, (ry.mono (fun _ _ _ z => z.nm) (.of_same (Same.refl H)) fun _ _ => rfl).shared fun b hb => own b (by rw [eL]; exact List.mem_cons_of_mem _ hb)⟩
    | ol ds =>
      obtain ⟨a, xs, ey, eL, ha, ry⟩ := r
      have es : σ[i]? = some (some (.ref a)) := by
        cases q2 : σ[i]? with
        | none => rw [q2] at ey; cases ey
        | some w => rw [q2] at ey; exact congrArg some ey
      refine ⟨_, es, hq (.list ds) _ H (Same.refl H) (.fls ?_) hw⟩
      have hm : a ∈ LL i := by rw [eL]; exact List.mem_cons_self
      simp only [Rp]
      refine ⟨a, xs, rfl, ⟨(R.own i a hm).1, fun j hj => ?_⟩, ha, ry.wide fun _ _ _ z => z.nm⟩
      rw [R.dj j i a hj hm]
      exact List.mem_cons_self
theorem e_int {i : Int} {j pos} : PE X (.Constant (.int i) j pos) (tE X.K P cl W (.int i)) := peI pe_int fun σ H Q ⟨S0, LL, ρ, q, e, R, hw, hq, _⟩ => hq _ _ H (Same.refl H) res_int hw
theorem e_bl {b : Bool} {j pos} : PE X (.Constant (.bool b) j pos) (tE X.K P cl W (.bl b)) := peI pe_bl fun σ H Q ⟨S0, LL, ρ, q, e, R, hw, hq, _⟩ => hq _ _ H (Same.refl H) res_bl hw
theorem e_non {j pos} : PE X (.Constant .none j pos) (tE X.K P cl W .non) := peI pe_non fun σ H Q ⟨S0, LL, ρ, q, e, R, hw, hq, _⟩ => hq _ _ H (Same.refl H) res_non hw
theorem e_str {x : Str} {j pos} : PE X (.Constant (.str x) j pos) (tE X.K P cl W (.str x)) := peI pe_str fun σ H Q ⟨S0, LL, ρ, q, e, R, hw, hq, _⟩ => hq _ _ H (Same.refl H) res_str hw

/-! ### operators -/
variable {a' b' c' : Expr} {a b c : C} {pos : Pos}
theorem inl_ {l m : List Nat} : ∀ i ∈ l, i ∈ l ++ m := fun i h => List.mem_append_left _ h
theorem inr_ {l m : List Nat} : ∀ i ∈ m, i ∈ l ++ m := fun i h => List.mem_append_right _ h
/-- two parts, one behind the other -/
theorem two {K : PySem.W.Frag} {σ : L2.St} {H : Hp} {S0 : Addr → Prop} {LL : Ow} {ρ : Env} {q : D → D → Prop} {e : Ex} {Qf : V → V → Hp → Prop} (R : Rel K P S0 LL ρ σ H)
    (hw : wE cl a ρ (fun x => wE cl b ρ (fun y => q x y) e) e) (he : ∀ k fs cv dx H', Same H H' → XRp K P H' k fs cv dx → e k fs → W cv dx σ H')
    (hq : ∀ dx dy x y H', Same H H' → Rp K (NmS S0 LL (nms a ++ nms b)) H' dx x → Rp K (NmS S0 LL (nms a ++ nms b)) H' dy y → q dx dy → Qf x y H') :
    tE K P cl W a σ H fun x H1 => tE K P cl W b σ H1 fun y H2 => Qf x y H2 :=
  ⟨S0, LL, ρ, _, e, R, hw, fun d v H1 s1 r1 h1 => ⟨S0, LL, ρ, _, e, R.same s1, h1, fun d2 v2 H2 s2 r2 h2 =>
    hq d d2 v v2 H2 (sq_ s1 s2) ((r1.1.wide fun _ _ _ z => z.sub inl_).same s2) (r2.1.wide fun _ _ _ z => z.sub inr_) h2, fun k fs cv dx H' s2 x h => he k fs cv dx H' (sq_ s1 s2) x h⟩, he⟩
theorem e_bin {o : Bo} (ha : PE X a' (tE X.K P cl W a)) (hb : PE X b' (tE X.K P cl W b)) : PE X (.BinOp a' (toOp o) b' pos) (tE X.K P cl W (.bin o a b)) := by
  refine peI (pe_op (opBin o) ha hb) fun σ H Q ⟨S0, LL, ρ, q, e, R, hw, hq, he⟩ => ?_
  refine two R hw he fun dx dy x y H' s rx ry hb => ⟨_, dx, dy, q, rx, ry, R.nmF s, hb, fun d v H2 s2 r hd => ?_⟩
  exact hq d v H2 (sq_ s s2) (Res.from s r).any hd
theorem e_cmp {o : Co} (hu : X.A.units + 64 < cLine) (ha : PE X a' (tE X.K P cl W a)) (hb : PE X b' (tE X.K P cl W b)) : PE X (.Compare a' [toCo o] [b'] pos) (tE X.K P cl W (.cmp o a b)) := by
  refine peI (pe_cmpR (opCmp hu o) ha hb (nobehind _ (toCo_in o).1 (toCo_in o).2)) fun σ H Q ⟨S0, LL, ρ, q, e, R, hw, hq, he⟩ => ?_
  exact two R hw he fun dx dy x y H' s rx ry hb => ⟨_, dx, dy, q, rx, ry, hb, fun k hk => hq _ _ H' s res_bl hk⟩
theorem t_cmp {o : Co} (hu : X.A.units + 64 < cLine) (ha : PE X a' (tE X.K P cl W a)) (hb : PE X b' (tE X.K P cl W b)) : PT X (.Compare a' [toCo o] [b'] pos) (tT X.K P cl W (.cmp o a b)) := by
  refine ptI (pt_cmpR (opCmp hu o) ha hb (nobehind _ (toCo_in o).1 (toCo_in o).2)) fun σ H Q ⟨S0, LL, ρ, q, e, R, hw, hq, he⟩ => ?_
  exact two R hw he fun dx dy x y H' s rx ry hb => ⟨_, dx, dy, _, rx, ry, hb, fun k hk => ⟨k, rfl, hq _ H' s hk⟩⟩
theorem chn_read {K : PySem.W.Frag} {o o' : Co} {σ : L2.St} {H : Hp} {S0 : Addr → Prop} {LL : Ow} {ρ : Env} {q : QD} {e : Ex} {Q : VK} (R : Rel K P S0 LL ρ σ H) (hw : wE cl (.chn o o' a b c) ρ q e)
    (he : ∀ k fs cv dx H', Same H H' → XRp K P H' k fs cv dx → e k fs → W cv dx σ H') (hq : ∀ k H', Same H H' → q (.bool k) → Q (.bl k) H') :
    tChain (rCmp K o) (rCmp K o') (tE K P cl W a) (tE K P cl W b) (tE K P cl W c) σ H Q := by
  refine ⟨S0, LL, ρ, _, e, R, hw, fun dx x H1 s1 r1 h1 => ⟨S0, LL, ρ, _, e, R.same s1, h1, fun dy y H2 s2 r2 h2 => ?_, fun k fs cv dx H' s2 x h => he k fs cv dx H' (sq_ s1 s2) x h⟩, he⟩
  have rx : Rp K (NmS S0 LL (nms a ++ (nms b ++ nms c))) H2 dx x := (r1.1.wide fun _ _ _ z => z.sub inl_).same s2
  have ry : Rp K (NmS S0 LL (nms a ++ (nms b ++ nms c))) H2 dy y := r2.1.wide fun _ _ _ z => z.sub fun i h => inr_ i (inl_ i h)
  refine ⟨_, dx, dy, _, rx, ry, h2, fun k hk => ⟨k, rfl, ?_⟩⟩
  cases k with
  | false => exact hq false H2 (sq_ s1 s2) hk
  | true =>
    refine ⟨S0, LL, ρ, _, e, R.same (sq_ s1 s2), hk, fun du u H3 s3 r3 h3 => ?_, fun k fs cv dx H' s3 x h => he k fs cv dx H' (sq_ (sq_ s1 s2) s3) x h⟩
    have ru : Rp K (NmS S0 LL (nms a ++ (nms b ++ nms c))) H3 du u := r3.1.wide fun _ _ _ z => z.sub fun i h => inr_ i (inr_ i h)
    exact ⟨_, dy, du, q, ry.same s3, ru, h3, fun k' hk' => hq k' H3 (sq_ (sq_ s1 s2) s3) hk'⟩
theorem e_chn {o o' : Co} (hu : X.A.units + 64 < cLine) (ha : PE X a' (tE X.K P cl W a)) (hb : PE X b' (tE X.K P cl W b)) (hc : PE X c' (tE X.K P cl W c)) (hm : behindInMarks (toCo o') c' = false) :
    PE X (.Compare a' [toCo o, toCo o'] [b', c'] pos) (tE X.K P cl W (.chn o o' a b c)) :=
  peI (pe_chain (opCmp hu o) (opCmp hu o') ha hb hc (show behindInMarks (toCo o') c' = false from hm)) fun σ H Q ⟨S0, LL, ρ, q, e, R, hw, hq, he⟩ => chn_read R hw he fun k H' s h => hq _ _ H' s res_bl h
theorem t_chn {o o' : Co} (hu : X.A.units + 64 < cLine) (ha : PE X a' (tE X.K P cl W a)) (hb : PE X b' (tE X.K P cl W b)) (hc : PE X c' (tE X.K P cl W c)) (hm : behindInMarks (toCo o') c' = false) :
    PT X (.Compare a' [toCo o, toCo o'] [b', c'] pos) (tT X.K P cl W (.chn o o' a b c)) :=
  ptI (pt_chain (opCmp hu o) (opCmp hu o') ha hb hc (show behindInMarks (toCo o') c' = false from hm)) fun σ H Q ⟨S0, LL, ρ, q, e, R, hw, hq, he⟩ =>
    chn_read (Q := fun x H' => ∃ k, x = .bl k ∧ Q k H') R hw he fun k H' s h => ⟨k, rfl, hq _ H' s h⟩
/-- one part -/
theorem one {K : PySem.W.Frag} {σ : L2.St} {H : Hp} {S0 : Addr → Prop} {LL : Ow} {ρ : Env} {q : QD} {e : Ex} {Qf : V → Hp → Prop} (R : Rel K P S0 LL ρ σ H) (hw : wE cl a ρ q e)
    (he : ∀ k fs cv dx H', Same H H' → XRp K P H' k fs cv dx → e k fs → W cv dx σ H') (hq : ∀ d x H', Same H H' → Rp K (NmS S0 LL (nms a)) H' d x → q d → Qf x H') : tE K P cl W a σ H Qf :=
  ⟨S0, LL, ρ, _, e, R, hw, fun d v H1 s1 r1 h1 => hq d v H1 s1 r1.1 h1, he⟩
theorem e_neg (ha : PE X a' (tE X.K P cl W a)) : PE X (.UnaryOp .USub a' pos) (tE X.K P cl W (.neg a)) := by
  refine peI (pe_un un_neg ha) fun σ H Q ⟨S0, LL, ρ, q, e, R, hw, hq, he⟩ => one R hw he fun d x H' s r h => ?_
  cases d <;> first | exact h.elim | skip
  have ex := r.int_; subst ex
  exact ⟨_, rfl, hq _ _ H' s res_int h⟩
theorem e_not (ha : PE X a' (tE X.K P cl W a)) : PE X (.UnaryOp .Not a' pos) (tE X.K P cl W (.not a)) := by
  refine peI (pe_notT ha) fun σ H Q ⟨S0, LL, ρ, q, e, R, hw, hq, he⟩ => one R hw he fun d x H' s r h => ?_
  obtain ⟨k, e1, h1⟩ := tru_of r h
  exact ⟨k, e1, hq _ _ H' s res_bl h1⟩
theorem truR_mono {d : D} {Q Q' : Bool → Prop} (h : truR d Q) (i : ∀ b, Q b → Q' b) : truR d Q' := by
  cases d <;> first | exact i _ h | exact ⟨h.1, i _ h.2⟩ | exact h
theorem truR_if {d : D} {A B : Prop} {Cc : Bool → Prop} {A' : Prop} (h : truR d fun t => if t = true then A else B) (ha : A → A') (hb : B → truR d fun b => Cc b) : truR d fun t => if t = true then A' else Cc false := by
  have key : ∀ k : Bool, (if k = true then A else B) → (k = false → B → Cc false) → (if k = true then A' else Cc false) := fun k h1 h2 => by
    cases k with
    | true => exact ha h1
    | false => exact h2 rfl h1
  cases d with
  | none => exact key false h fun _ z => hb z
  | bool b => exact key b h fun e z => by have := hb z; rw [show truR (.bool b) (fun b => Cc b) = Cc b from rfl, e] at this; exact this
  | int i => exact key _ h fun e z => by have := hb z; rw [show truR (.int i) (fun b => Cc b) = Cc (i != 0) from rfl, e] at this; exact this
  | str x => exact ⟨h.1, key _ h.2 fun e z => by have := (hb z).2; simp only [e] at this; exact this⟩
  | list ds => exact key _ h fun e z => by have := hb z; rw [show truR (.list ds) (fun b => Cc b) = Cc (!ds.isEmpty) from rfl, e] at this; exact this
  | tuple ds => exact key _ h fun e z => by have := hb z; rw [show truR (.tuple ds) (fun b => Cc b) = Cc (!ds.isEmpty) from rfl, e] at this; exact this
  | dict k => exact h
theorem truR_if2 {d : D} {A B : Prop} {Cc : Bool → Prop} {A' : Prop} (h : truR d fun t => if t = true then A else B) (hb : B → A') (ha : A → truR d fun b => Cc b) : truR d fun t => if t = true then Cc true else A' := by
  have key : ∀ k : Bool, (if k = true then A else B) → (k = true → A → Cc true) → (if k = true then Cc true else A') := fun k h1 h2 => by
    cases k with
    | false => exact hb h1
    | true => exact h2 rfl h1
  cases d with
  | none => exact key false h fun q _ => nomatch q
  | bool b => exact key b h fun e z => by have := ha z; rw [show truR (.bool b) (fun b => Cc b) = Cc b from rfl, e] at this; exact this
  | int i => exact key _ h fun e z => by have := ha z; rw [show truR (.int i) (fun b => Cc b) = Cc (i != 0) from rfl, e] at this; exact this
  | str x => exact ⟨h.1, key _ h.2 fun e z => by have := (ha z).2; simp only [e] at this; exact this⟩
  | list ds => exact key _ h fun e z => by have := ha z; rw [show truR (.list ds) (fun b => Cc b) = Cc (!ds.isEmpty) from rfl, e] at this; exact this
  | tuple ds => exact key _ h fun e z => by have := ha z; rw [show truR (.tuple ds) (fun b => Cc b) = Cc (!ds.isEmpty) from rfl, e] at this; exact this
  | dict k => exact h
theorem t_not (ha : PT X a' (tT X.K P cl W a)) : PT X (.UnaryOp .Not a' pos) (tT X.K P cl W (.not a)) := by
  refine ptI (pt_not ha) fun σ H Q ⟨S0, LL, ρ, q, e, R, hw, hq, he⟩ => ⟨S0, LL, ρ, _, e, R, hw, fun d H' s h => truR_mono h fun b h => hq (.bool (!b)) H' s h, he⟩
variable {y' : Expr} {r' : List Expr}
theorem e_and (ha : PE X a' (tE X.K P cl W a)) (hb : PE X (.BoolOp .And (y' :: r') pos) (tE X.K P cl W b)) : PE X (.BoolOp .And (a' :: y' :: r') pos) (tE X.K P cl W (.and a b)) := by
  refine peI (pe_andT ha hb) fun σ H Q ⟨S0, LL, ρ, q, e, R, hw, hq, he⟩ => one R hw he fun d x H' s r h => ?_
  obtain ⟨k, e1, h1⟩ := tru_of r h
  refine ⟨k, e1, ?_⟩
  cases k with
  | true => exact ⟨S0, LL, ρ, _, e, R.same s, h1, fun d v H2 s2 r2 h2 => hq d v H2 (sq_ s s2) (.fls (r2.1.wide fun _ _ _ z => z.sub inr_)) h2, fun k fs cv dx H' s2 x h => he k fs cv dx H' (sq_ s s2) x h⟩
  | false => exact hq d x H' s (.fls (r.wide fun _ _ _ z => z.sub inl_)) h1
theorem e_or (ha : PE X a' (tE X.K P cl W a)) (hb : PE X (.BoolOp .Or (y' :: r') pos) (tE X.K P cl W b)) : PE X (.BoolOp .Or (a' :: y' :: r') pos) (tE X.K P cl W (.or a b)) := by
  refine peI (pe_orT ha hb) fun σ H Q ⟨S0, LL, ρ, q, e, R, hw, hq, he⟩ => one R hw he fun d x H' s r h => ?_
  obtain ⟨k, e1, h1⟩ := tru_of r h
  refine ⟨k, e1, ?_⟩
  cases k with
  | false => exact ⟨S0, LL, ρ, _, e, R.same s, h1, fun d v H2 s2 r2 h2 => hq d v H2 (sq_ s s2) (.fls (r2.1.wide fun _ _ _ z => z.sub inr_)) h2, fun k fs cv dx H' s2 x h => he k fs cv dx H' (sq_ s s2) x h⟩
  | true => exact hq d x H' s (.fls (r.wide fun _ _ _ z => z.sub inl_)) h1
theorem t_and (ha : PT X a' (tT X.K P cl W a)) (hb : PW X (.BoolOp .And (y' :: r') pos) (tT X.K P cl W b)) : PW X (.BoolOp .And (a' :: y' :: r') pos) (tT X.K P cl W (.and a b)) := by
  refine ⟨fun wh pins s σ H Q I q => (pw_and ha hb).run wh pins s σ H Q I ?_⟩
  obtain ⟨S0, LL, ρ, q, e, R, hw, hq, he⟩ := q
  exact ⟨S0, LL, ρ, _, e, R, hw, fun d H' s h => truR_if h (fun h1 => ⟨S0, LL, ρ, _, e, R.same s, h1, fun d H2 s2 h2 => hq d H2 (sq_ s s2) h2, fun k fs cv dx H' s2 x h => he k fs cv dx H' (sq_ s s2) x h⟩) fun h1 => hq d H' s h1, he⟩
theorem t_or (ha : PT X a' (tT X.K P cl W a)) (hb : PW X (.BoolOp .Or (y' :: r') pos) (tT X.K P cl W b)) : PW X (.BoolOp .Or (a' :: y' :: r') pos) (tT X.K P cl W (.or a b)) := by
  refine ⟨fun wh pins s σ H Q I q => (pw_or ha hb).run wh pins s σ H Q I ?_⟩
  obtain ⟨S0, LL, ρ, q, e, R, hw, hq, he⟩ := q
  exact ⟨S0, LL, ρ, _, e, R, hw, fun d H' s h => truR_if2 h (fun h1 => ⟨S0, LL, ρ, _, e, R.same s, h1, fun d H2 s2 h2 => hq d H2 (sq_ s s2) h2, fun k fs cv dx H' s2 x h => he k fs cv dx H' (sq_ s s2) x h⟩) fun h1 => hq d H' s h1, he⟩
/-- a test by truth -/
theorem t_of (ha : PE X a' (tE X.K P cl W a)) (he : ∀ whole, isTrue a' X.env whole = (do let v ← whole; standAt a'.pos; holding [v] (truthy v))) : PT X a' (tT X.K P cl W a) :=
  ptI (pt_truth ha he) fun σ H Q ⟨S0, LL, ρ, q, e, R, hw, hq, hE⟩ => one R hw hE fun d x H' s r h => tru_of r (hq d H' s h)
theorem e_ite (hc : PT X c' (tT X.K P cl W c)) (ha : PE X a' (tE X.K P cl W a)) (hb : PE X b' (tE X.K P cl W b)) : PE X (.IfExp c' a' b' pos) (tE X.K P cl W (.ite c a b)) := by
  refine peI (pe_ifExp hc ha hb) fun σ H Q ⟨S0, LL, ρ, q, e, R, hw, hq, he⟩ => ?_
  refine ⟨S0, LL, ρ, _, e, R, hw, fun d H1 s1 h1 => truR_mono h1 fun k hk => ?_, he⟩
  have fr : ∀ {f g : Bool} {S : Addr → Prop} {H H' : Hp} {d : D} {v : V}, (f = true → g = true) → Res X.K S H H' g d v → Res X.K S H H' f d v := fun i r => ⟨r.1, fun z => r.2 (i z)⟩
  cases k with
  | true =>
    exact ⟨S0, LL, ρ, _, e, R.same s1, hk, fun d v H2 s2 r2 h2 => hq d v H2 (sq_ s1 s2) (fr (fun z => (Bool.and_eq_true_iff.mp (show (fresh a && fresh b) = true from z)).1) ((Res.from s1 r2).sub fun _ z => z.sub fun i h => inr_ i (inl_ i h))) h2,
      fun k fs cv dx H' s2 x h => he k fs cv dx H' (sq_ s1 s2) x h⟩
  | false =>
    exact ⟨S0, LL, ρ, _, e, R.same s1, hk, fun d v H2 s2 r2 h2 => hq d v H2 (sq_ s1 s2) (fr (fun z => (Bool.and_eq_true_iff.mp (show (fresh a && fresh b) = true from z)).2) ((Res.from s1 r2).sub fun _ z => z.sub fun i h => inr_ i (inr_ i h))) h2,
      fun k fs cv dx H' s2 x h => he k fs cv dx H' (sq_ s1 s2) x h⟩

/-! ### is, in -/
theorem is_non {K : PySem.W.Frag} {S : Addr → Prop} {H : Hp} {d : D} {x : V} (h : Rp K S H d x) : decide (x = .non) = isNon d := by
  cases d with
  | none => have e := h.non_; subst e; rfl
  | bool b => have e := h.bl_; subst e; rfl
  | int b => have e := h.int_; subst e; rfl
  | str b => have e := h.str_; subst e; rfl
  | list ds => obtain ⟨a, xs, rfl, _⟩ := h.lst_; rfl
  | tuple ds => obtain ⟨a, xs, rfl, _⟩ := h.tup_; rfl
  | dict ds => obtain ⟨a, xs, rfl, _⟩ := h.dic_; rfl
theorem e_isN {n : Bool} {j : Nat} {p2 : Pos} (ha : PE X a' (tE X.K P cl W a)) : PE X (.Compare a' [if n = true then .IsNot else .Is] [.Constant .none j p2] pos) (tE X.K P cl W (.isN n a)) := by
  cases n with
  | false => exact peI (pe_cmpR op_isN ha pe_non (nomark _)) fun σ H Q ⟨S0, LL, ρ, q, e, R, hw, hq, he⟩ => one R hw he fun d x H' s r h => ⟨rfl, by rw [is_non r]; exact hq _ _ H' s res_bl (by simpa using h)⟩
  | true => exact peI (pe_cmpR op_notN ha pe_non (nomark _)) fun σ H Q ⟨S0, LL, ρ, q, e, R, hw, hq, he⟩ => one R hw he fun d x H' s r h => ⟨rfl, by rw [is_non r]; exact hq _ _ H' s res_bl (by simpa using h)⟩
theorem t_isN {n : Bool} {j : Nat} {p2 : Pos} (ha : PE X a' (tE X.K P cl W a)) : PT X (.Compare a' [if n = true then .IsNot else .Is] [.Constant .none j p2] pos) (tT X.K P cl W (.isN n a)) := by
  cases n with
  | false => exact ptI (pt_cmpR op_isN ha pe_non (nomark _)) fun σ H Q ⟨S0, LL, ρ, q, e, R, hw, hq, he⟩ => one R hw he fun d x H' s r h => ⟨rfl, _, rfl, by rw [is_non r]; have := hq _ H' s h; simpa [truR] using this⟩
  | true => exact ptI (pt_cmpR op_notN ha pe_non (nomark _)) fun σ H Q ⟨S0, LL, ρ, q, e, R, hw, hq, he⟩ => one R hw he fun d x H' s r h => ⟨rfl, _, rfl, by rw [is_non r]; have := hq _ H' s h; simpa [truR] using this⟩
/-- x is b -/
def rIsBl (K : PySem.W.Frag) (n b : Bool) : R2 := fun x y H Q => ∃ (S : Addr → Prop) (d : D), Rp K S H d x ∧ y = .bl b ∧ Q (.bl (isBv b d != n)) H
theorem op_isBD {n b : Bool} : OpR X (compareOp (if n = true then .IsNot else .Is)) (rIsBl X.K n b) := by
  intro pins s σ H x y v u Q I rx ry h
  obtain ⟨S, d, hx, rfl, q⟩ := h
  cases (show u = Value.bool b from ry)
  have go : PySem.plainIs v (.bool b) = true → (v == Value.bool b) = isBv b d → wpAny (model X.prog X.w) X.A (compareOp (if n = true then .IsNot else .Is) v (.bool b)) (EP X pins σ Q) X.xe s := fun hp ek => by
    cases n with
    | false => exact wpAny_is_plain hp ⟨.bl (isBv b d), H, I, by rw [ek]; rfl, by simpa using q⟩
    | true => exact wpAny_isNot_plain hp ⟨.bl (!isBv b d), H, I, by rw [ek]; rfl, by simpa using q⟩
  cases d with
  | none =>
    have e := hx.non_; subst e
    cases (show v = Value.none from rx)
    exact go rfl rfl
  | bool c =>
    have e := hx.bl_; subst e
    cases (show v = Value.bool c from rx)
    exact go rfl (by cases c <;> cases b <;> rfl)
  | int i =>
    have e := hx.int_; subst e
    obtain ⟨t, rfl⟩ := (show ∃ t, v = Value.int i t from rx)
    exact go rfl rfl
  | str i =>
    have e := hx.str_; subst e
    obtain ⟨t, rfl⟩ := (show ∃ t, v = Value.str i t from rx)
    exact go rfl rfl
  | list ds =>
    obtain ⟨a, xs, rfl, _⟩ := hx.lst_
    cases (show v = Value.ref a from rx)
    exact go rfl rfl
  | tuple ds =>
    obtain ⟨a, xs, rfl, _⟩ := hx.tup_
    cases (show v = Value.ref a from rx)
    exact go rfl rfl
  | dict ds =>
    obtain ⟨a, xs, rfl, _⟩ := hx.dic_
    cases (show v = Value.ref a from rx)
    exact go rfl rfl
theorem e_isB {n b : Bool} {j : Nat} {p2 : Pos} (ha : PE X a' (tE X.K P cl W a)) : PE X (.Compare a' [if n = true then .IsNot else .Is] [.Constant (.bool b) j p2] pos) (tE X.K P cl W (.isB n b a)) :=
  peI (pe_cmpR op_isBD ha pe_bl (by cases n <;> exact nomark _)) fun σ H Q ⟨S0, LL, ρ, q, e, R, hw, hq, he⟩ => one R hw he fun d x H' s r h => ⟨_, d, r, rfl, hq _ _ H' s res_bl h⟩
theorem t_isB {n b : Bool} {j : Nat} {p2 : Pos} (ha : PE X a' (tE X.K P cl W a)) : PT X (.Compare a' [if n = true then .IsNot else .Is] [.Constant (.bool b) j p2] pos) (tT X.K P cl W (.isB n b a)) :=
  ptI (pt_cmpR op_isBD ha pe_bl (by cases n <;> exact nomark _)) fun σ H Q ⟨S0, LL, ρ, q, e, R, hw, hq, he⟩ => one R hw he fun d x H' s r h => ⟨_, d, r, rfl, _, rfl, hq _ H' s h⟩
def rMem (K : PySem.W.Frag) (n : Bool) : R2 := fun x y H Q => ∃ (S : Addr → Prop) (dx dy : D), Rp K S H dx x ∧ Rp K S H dy y ∧ memR dx dy fun k => Q (.bl (k != n)) H
theorem op_memD (hu : X.A.units + 66 < cLine) {n : Bool} : OpR X (compareOp (if n = true then .NotIn else .In)) (rMem X.K n) := by
  intro pins s σ H x y v u Q I rx ry h
  obtain ⟨S, dx, dy, hx, hy, q⟩ := h
  unfold memR at q
  split at q
  · rename_i ds
    obtain ⟨⟨s1, s2⟩, q⟩ := q
    cases n with
    | false => exact op_inD (by omega) pins s σ H x y v u Q I rx ry ⟨dx, ds, hx.dp _ _ s1, hy.dp _ _ s2, s1, s2, by simpa using q⟩
    | true => exact op_notInD (by omega) pins s σ H x y v u Q I rx ry ⟨dx, ds, hx.dp _ _ s1, hy.dp _ _ s2, s1, s2, by simpa using q⟩
  · rename_i ds
    obtain ⟨⟨s1, s2⟩, q⟩ := q
    obtain ⟨as, r1⟩ := Dp.reads I dx x v (hx.dp _ _ s1) rx
    obtain ⟨bs, r2⟩ := Dp.reads I (.tuple ds) y u (hy.dp _ _ s2) ry
    have l2 : PyData.canLayAll0 ds = true := SeqAt.canLay_of_shaped s2
    have l1 := SeqAt.canLay_of_shaped s1
    have d1 := SeqAt.depth_of_shaped s1
    have m1 := Nat.min_le_right (PyData.depthAll ds) dx.depth
    cases n with
    | false => exact SeqAt.in_tuple_reads r2 r1 l2 l1 (by omega) ⟨.bl _, H, I, rfl, by simpa using q⟩
    | true => exact SeqAt.notIn_tuple_reads r2 r1 l2 l1 (by omega) ⟨.bl _, H, I, rfl, by simpa using q⟩
  · have e1 := hx.str_; have e2 := hy.str_; subst e1 e2
    cases n with
    | false => exact op_in_str pins s σ H _ _ v u Q I rx ry ⟨_, _, rfl, rfl, by simpa using q⟩
    | true => exact op_notin_str pins s σ H _ _ v u Q I rx ry ⟨_, _, rfl, rfl, by simpa using q⟩
  · exact q.elim
theorem memR_mono {x y : D} {Q Q' : Bool → Prop} (h : memR x y Q) (i : ∀ b, Q b → Q' b) : memR x y Q' := by
  unfold memR at h ⊢
  split at h
  · exact ⟨h.1, i _ h.2⟩
  · exact ⟨h.1, i _ h.2⟩
  · exact i _ h
  · exact h.elim
theorem e_mem {n : Bool} (hu : X.A.units + 66 < cLine) (ha : PE X a' (tE X.K P cl W a)) (hb : PE X b' (tE X.K P cl W b)) (hm : behindInMarks (if n = true then .NotIn else .In) b' = false) :
    PE X (.Compare a' [if n = true then .NotIn else .In] [b'] pos) (tE X.K P cl W (.mem n a b)) :=
  peI (pe_cmpR (op_memD hu) ha hb hm) fun σ H Q ⟨S0, LL, ρ, q, e, R, hw, hq, he⟩ => two R hw he fun dx dy x y H' s rx ry h => ⟨_, dx, dy, rx, ry, memR_mono h fun k hk => hq _ _ H' s res_bl hk⟩
theorem t_mem {n : Bool} (hu : X.A.units + 66 < cLine) (ha : PE X a' (tE X.K P cl W a)) (hb : PE X b' (tE X.K P cl W b)) (hm : behindInMarks (if n = true then .NotIn else .In) b' = false) :
    PT X (.Compare a' [if n = true then .NotIn else .In] [b'] pos) (tT X.K P cl W (.mem n a b)) :=
  ptI (pt_cmpR (op_memD hu) ha hb hm) fun σ H Q ⟨S0, LL, ρ, q, e, R, hw, hq, he⟩ => two R hw he fun dx dy x y H' s rx ry h => ⟨_, dx, dy, rx, ry, memR_mono h fun k hk => ⟨_, rfl, hq _ H' s hk⟩⟩
end
end Uq

set_option maxHeartbeats 1000000
/-! Uq, part g: displays, places, slices, calls. -/
namespace Uq
open PySem PySem.Spec PyProof.Rows L2
section
variable {X : Cx} {P : Pg} {cl : Cl} {W : WX} {a' b' c' : Expr} {a b c : C} {pos : Pos}
theorem gl_of {sc : Scope} {x : Str} (h : isG sc x = true) (e : X.env.scope = sc) : Gl X x := by
  show X.env.scope.names.lookup x = some .globalImplicit
  rw [e]
  unfold isG at h
  split at h
  · assumption
  · cases h
theorem vis_of {sc : Scope} {x : Str} (h : isL sc x = true) (e : X.env.scope = sc) : Vis X.env.scope x := by
  rw [e]
  unfold isL at h
  split at h
  · exact .inl (by assumption)
  · exact .inr (.inl (by assumption))
  · exact .inr (.inr (by assumption))
  · cases h

/-! ### argument lists -/
def tEsL (K : PySem.W.Frag) (P : Pg) (cl : Cl) (W : WX) (cs : List C) : TA := fun σ H Q => ∃ S0 LL ρ q e, Rel K P S0 LL ρ σ H ∧ wEs cl cs ρ q e ∧
  (∀ ds vs H', Same H H' → Rps K (NmS S0 LL (nmsL cs)) H' ds vs → ds.length = cs.length → q ds → Q vs H') ∧ (∀ k fs cv dx H', Same H H' → XRp K P H' k fs cv dx → e k fs → W cv dx σ H')
theorem a_nil : PA X [] (tEsL X.K P cl W []) := paI pa_nil fun σ H Q ⟨S0, LL, ρ, q, e, R, hw, hq, he⟩ => hq [] [] H (Same.refl H) .nil rfl hw
theorem tEs_cons {K : PySem.W.Frag} {cs : List C} {σ : L2.St} {H : Hp} {Q : List V → Hp → Prop} (h : tEsL K P cl W (a :: cs) σ H Q) : tCons (tE K P cl W a) (tEsL K P cl W cs) σ H Q := by
  obtain ⟨S0, LL, ρ, q, e, R, hw, hq, he⟩ := h
  refine ⟨S0, LL, ρ, _, e, R, hw, fun d v H1 s1 r1 h1 => ⟨S0, LL, ρ, _, e, R.same s1, h1, fun ds vs H2 s2 r2 l2 h2 => ?_, fun k fs cv dx H' s2 x h => he k fs cv dx H' (sq_ s1 s2) x h⟩, he⟩
  exact hq (d :: ds) (v :: vs) H2 (sq_ s1 s2) (.cons ((r1.1.wide fun _ _ _ z => z.sub inl_).same s2) (r2.wide fun _ _ _ z => z.sub inr_)) (by simp [l2]) h2
theorem a_cons {cs : List C} {es : List Expr} (ha : PE X a' (tE X.K P cl W a)) (hr : PA X es (tEsL X.K P cl W cs)) (hs : starEach (a' :: es) X.env = (false, eval a' X.env) :: starEach es X.env) : PA X (a' :: es) (tEsL X.K P cl W (a :: cs)) :=
  paI (pa_cons ha hr hs) fun σ H Q h => tEs_cons h
theorem k_nil : PK X [] (tEsL X.K P cl W []) := ⟨fun pos pins s σ H Q I h => pk_nil.run pos pins s σ H Q I (let ⟨S0, LL, ρ, q, e, R, hw, hq, he⟩ := h; hq [] [] H (Same.refl H) .nil rfl hw)⟩
theorem k_cons {cs : List C} {kws : List Keyword} {nm : Option Str} {kpos : Pos} (ha : PE X a' (tE X.K P cl W a)) (hr : PK X kws (tEsL X.K P cl W cs)) : PK X (⟨nm, a', kpos⟩ :: kws) (tEsL X.K P cl W (a :: cs)) :=
  ⟨fun pos pins s σ H Q I h => (pk_cons ha hr).run pos pins s σ H Q I (tEs_cons h)⟩
/-! ### displays -/
theorem len1000 {n : Nat} (h : n ≤ 1000) : n ≤ sizeLine := Nat.le_trans h (by decide)
theorem e_tup {cs : List C} {es : List Expr} {n : Nat} (hn : cs.length ≤ 1000) (h : PA X es (tEsL X.K P cl W cs)) : PE X (.Tuple es n pos) (tE X.K P cl W (.tup cs)) := by
  refine peI (pe_tup h) fun σ H Q ⟨S0, LL, ρ, q, e, R, hw, hq, he⟩ => ⟨S0, LL, ρ, _, e, R, hw, fun ds vs H1 s1 r1 l1 h1 => ⟨len1000 (by rw [← r1.length, l1]; exact hn), fun p hp => ?_⟩, he⟩
  exact hq _ _ _ (sq_ s1 (same_upd hp)) (res_of (new_tup r1 hp) fun _ e => by cases e) h1
theorem e_lst {cs : List C} {es : List Expr} (hn : cs.length ≤ 1000) (h : PA X es (tEsL X.K P cl W cs)) : PE X (.List es pos) (tE X.K P cl W (.lst cs)) := by
  refine peI (pe_lst h) fun σ H Q ⟨S0, LL, ρ, q, e, R, hw, hq, he⟩ => ⟨S0, LL, ρ, _, e, R, hw, fun ds vs H1 s1 r1 l1 h1 => ⟨len1000 (by rw [← r1.length, l1]; exact hn), fun p hp => ?_⟩, he⟩
  exact hq _ _ _ (sq_ s1 (same_upd hp)) (Res.from s1 (new_lst r1 hp (R.nmF s1 p hp))) h1

/-! ### places, slices -/
def rIxD (K : PySem.W.Frag) : R2 := fun x y H Q => ∃ (S : Addr → Prop) (dx dy : D) (q : QD), Rp K S H dx x ∧ Rp K S H dy y ∧ ixR dx dy q ∧ ∀ d v, Rp K S H d v → q d → Q v H
theorem Rp.ints {K : PySem.W.Frag} {S : Addr → Prop} {H : Hp} {kvs : List (D × D)} {ns : List Int} (e : kvs = ns.map fun n => ((PyData.none, PyData.int n) : D × D)) : Rps K S H (kvs.map (·.2)) (ns.map V.int) := by
  subst e
  have e2 : (ns.map fun n => ((PyData.none, PyData.int n) : D × D)).map (·.2) = ns.map PyData.int := by rw [List.map_map]; rfl
  rw [e2]
  exact Rps.ints ns
theorem ixD : IxR X (rIxD X.K) := by
  intro value slice pins s σ H x y v u Q I rx ry h hs
  obtain ⟨S, dx, dy, q, hx, hy, hi, cont⟩ := h
  unfold ixR at hi
  split at hi
  · obtain ⟨a, xs, rfl, sa, ha, r⟩ := hx.lst_
    have e := hy.int_; subst e
    obtain ⟨d, e1, hq⟩ := hi
    obtain ⟨w, e2, rw⟩ := r.atI e1
    exact ix_list value slice pins s σ H _ _ v u Q I rx ry ⟨a, xs, _, w, rfl, rfl, SqL.of ha, e2, cont _ _ rw hq⟩ hs
  · obtain ⟨a, xs, rfl, ha, r⟩ := hx.tup_
    have e := hy.int_; subst e
    obtain ⟨d, e1, hq⟩ := hi
    obtain ⟨w, e2, rw⟩ := r.atI e1
    exact ix_tup value slice pins s σ H _ _ v u Q I rx ry ⟨a, xs, _, w, rfl, rfl, ha, e2, cont _ _ rw hq⟩ hs
  · obtain ⟨a, ns, rfl, ha, ek⟩ := hx.dic_
    have e := hy.int_; subst e
    obtain ⟨d, e1, hq⟩ := hi
    obtain ⟨w, e2, rw⟩ := (Rp.ints (K := X.K) (S := S) (H := H) ek).atI e1
    exact ix_list value slice pins s σ H _ _ v u Q I rx ry ⟨a, _, _, w, rfl, rfl, ha.sq, e2, cont _ _ rw hq⟩ hs
  · exact hi.elim
theorem e_ix (ha : PE X a' (tE X.K P cl W a)) (hb : PE X b' (tE X.K P cl W b)) (hs : PlainIx b') : PE X (.Subscript a' b' pos) (tE X.K P cl W (.ix a b)) := by
  refine peI (pe_ix ixD ha hb hs) fun σ H Q ⟨S0, LL, ρ, q, e, R, hw, hq, he⟩ => two R hw he fun dx dy x y H' s rx ry h => ⟨_, dx, dy, q, rx, ry, h, fun d v r hd => hq d v H' s (.fls r) hd⟩
def rSlD (K : PySem.W.Frag) : V → Option Int → Option Int → Hp → VK → Prop := fun x lo hi H Q => ∃ (S : Addr → Prop) (dx : D) (q : QD), Rp K S H dx x ∧ (∀ a, H a = none → S a) ∧
  slR dx lo hi q ∧ ∀ d v H', Same H H' → Res K S H H' true d v → q d → Q v H'
theorem cut_all {ds : List D} {lo hi : Option Int} (h : HT.sIx ds.length 0 lo = 0 ∧ HT.sIx ds.length ds.length hi = ds.length) : cut ds lo hi = ds := by
  unfold cut
  rw [h.1, h.2]
  simp
theorem slD : SlR X (rSlD X.K) := by
  intro pins s σ H x v vl vu lo hi sl Q I rx hs pl pu h
  obtain ⟨S, dx, q, hx, hS, hq, cont⟩ := h
  cases dx <;> first | exact hq.elim | skip
  · obtain ⟨a, xs, rfl, sa, ha, r⟩ := hx.lst_
    exact sl_list pins s σ H _ v vl vu lo hi sl Q I rx hs pl pu ⟨a, xs, rfl, SqL.of ha, fun p hp => cont _ _ _ (same_upd hp) (new_lst r.cut hp (hS p hp)) hq⟩
  · obtain ⟨a, xs, rfl, ha, r⟩ := hx.tup_
    refine sl_tupA pins s σ H _ v vl vu lo hi sl Q I rx hs pl pu ⟨a, xs, rfl, ha, fun z => ?_, fun _ p hp => cont _ _ _ (same_upd hp) (res_of (new_tup r.cut hp) fun _ e => by cases e) hq⟩
    have hq' : q (.tuple (cut _ lo hi)) := hq
    rw [cut_all (by rw [r.length]; exact z)] at hq'
    exact cont _ _ _ (Same.refl H) (res_of hx fun _ e => by cases e) hq'
def tO (K : PySem.W.Frag) (P : Pg) (cl : Cl) (W : WX) (c : C) : TO := fun σ H Q => ∃ S0 LL ρ k e, Rel K P S0 LL ρ σ H ∧ wOpt (isNonC c) (fun q => wE cl c ρ q e) k ∧ (∀ o H', Same H H' → k o → Q o H') ∧
  (∀ k fs cv dx H', Same H H' → XRp K P H' k fs cv dx → e k fs → W cv dx σ H')
theorem poI {e : Option Expr} {t t' : TO} (h : PO X e t) (i : ∀ σ H Q, t' σ H Q → t σ H Q) : PO X e t' := ⟨fun pins s σ H Q I q => h.run pins s σ H Q I (i σ H Q q)⟩
theorem o_none (h : isNonC c = true) : PO X none (tO X.K P cl W c) := poI po_none fun σ H Q ⟨S0, LL, ρ, k, e, R, hw, hq, he⟩ => by
  unfold wOpt at hw
  rw [if_pos h] at hw
  exact hq _ H (Same.refl H) hw
theorem o_some (h : isNonC c = false) (hc : PE X c' (tE X.K P cl W c)) : PO X (some c') (tO X.K P cl W c) := poI (po_some hc) fun σ H Q ⟨S0, LL, ρ, k, e, R, hw, hq, he⟩ => by
  unfold wOpt at hw
  rw [if_neg (by rw [h]; exact Bool.false_ne_true)] at hw
  refine one R hw he fun d x H' s r h => ?_
  cases d <;> first | exact h.elim | skip
  exact ⟨_, r.int_, hq _ H' s h⟩
theorem e_sl {lo hi : Option Expr} {p2 : Pos} (ha : PE X a' (tE X.K P cl W a)) (hl : PO X lo (tO X.K P cl W b)) (hu : PO X hi (tO X.K P cl W c)) : PE X (.Subscript a' (.Slice lo hi none p2) pos) (tE X.K P cl W (.sl a b c)) := by
  refine peI (pe_slice slD ha hl hu) fun σ H Q ⟨S0, LL, ρ, q, e, R, hw, hq, he⟩ => ?_
  refine ⟨S0, LL, ρ, _, e, R, hw, fun dx x H1 s1 r1 w1 => ⟨S0, LL, ρ, _, e, R.same s1, w1, fun lo H2 s2 w2 => ⟨S0, LL, ρ, _, e, R.same (sq_ s1 s2), w2, fun hi H3 s3 w3 => ?_, ?_⟩, ?_⟩, he⟩
  · refine ⟨NmS S0 LL (nms a ++ (nms b ++ nms c)), dx, q, (r1.1.wide fun _ _ _ z => z.sub inl_).same (sq_ s2 s3), R.nmF (sq_ (sq_ s1 s2) s3), w3, fun d v H' s r hd => ?_⟩
    exact hq d v H' (sq_ (sq_ (sq_ s1 s2) s3) s) (Res.from (sq_ (sq_ s1 s2) s3) r) hd
  · exact fun k fs cv dx H' s x h => he k fs cv dx H' (sq_ (sq_ s1 s2) s) x h
  · exact fun k fs cv dx H' s x h => he k fs cv dx H' (sq_ s1 s) x h

/-! ### calls of the program's functions -/
def spF (K : PySem.W.Frag) (P : Pg) (np : Nat) (call : List D → QD → Ex → Prop) : Sp := fun vs H Q E => ∃ (ds : List D) (S : Addr → Prop) (q : QD) (e : Ex), Rps K S H ds vs ∧ (∀ a, H a = none → S a) ∧ call ds q e ∧ vs.length = np ∧
  (∀ d v H', Same H H' → Rp K S H' d v → q d → Q v H') ∧ (∀ k fs cv dx H', Same H H' → XRp K P H' k fs cv dx → e k fs → E cv dx H')
theorem Rps.perm {K : PySem.W.Frag} {S : Addr → Prop} {H : Hp} {ds : List D} {vs : List V} (h : Rps K S H ds vs) : ∀ pm : List Nat, Rps K S H (pm.map fun j => ds.getD j .none) (pm.map fun j => vs.getD j .non)
  | [] => .nil
  | j :: pm => by
    refine .cons ?_ (h.perm pm)
    show Rp K S H (ds.getD j .none) (vs.getD j .non)
    cases e : ds[j]? with
    | none =>
      have e2 : vs[j]? = none := by
        rw [List.getElem?_eq_none_iff] at e ⊢
        rw [← h.length]; exact e
      rw [List.getD_eq_getElem?_getD, List.getD_eq_getElem?_getD, e, e2]
      simp only [Option.getD_none, Rp]
    | some d =>
      obtain ⟨v, e2, r⟩ := h.get e
      rw [List.getD_eq_getElem?_getD, List.getD_eq_getElem?_getD, e, e2]
      exact r
def permV (pm : List Nat) (vs zs : List V) : List V := pm.map fun j => (vs ++ zs).getD j .non
theorem wEs_app {ρ : Env} {e : Ex} : ∀ (as bs : List C) (q : List D → Prop), wEs cl (as ++ bs) ρ q e = wEs cl as ρ (fun xs => wEs cl bs ρ (fun ys => q (xs ++ ys)) e) e
  | [], bs, q => by simp only [List.nil_append, wEs]
  | c :: as, bs, q => by
    simp only [List.cons_append, wEs]
    congr 1
    funext v
    rw [wEs_app as bs]
section
variable {k : Nat} {fa : Addr} {fd : FuncData} {ps : List Str} {x : Str} {p : Pos} {f : Nat} {cs : List C} {es : List Expr}
theorem e_call (F : FnOk X.prog X.w X.K X.mg X.base (L2.CX X.prog X.w) k fa fd ps (spF X.K P ps.length (cl.call f))) (tk : Takes X W) (hr : Room k X.A) (hg : Gl X x) (hm : X.mg x = some (.ref fa)) (hk : PySem.W.keepIn X.K (.ref fa) = true) (hb : Binds X.K fd ps [])
    (hl : cs.length = ps.length) (ha : PA X (a' :: es) (tEsL X.K P cl W cs)) (hdb : (x == ("__debug__" : Str)) = false) (he : starEach (a' :: es) X.env = (false, eval a' X.env) :: starEach es X.env) (hpl : (backTo pos (starEach es X.env)).any (·.1) = false) :
    PE X (.Call (.Name x p) (a' :: es) [] pos) (tE X.K P cl W (.call f [] cs)) := by
  refine peI (pe_callS F hr hg hm hk hb (fun σ => passAt tk σ) ha hdb he hpl) fun σ H Q ⟨S0, LL, ρ, q, e, R, hw, hq, hE⟩ => ?_
  refine ⟨S0, LL, ρ, _, e, R, hw, fun ds vs H1 s1 r1 l1 h1 => ⟨ds, _, q, e, r1, R.nmF s1, h1, by rw [← r1.length, l1, hl], fun d v H' s r hd => hq d v H' (sq_ s1 s) (.fls r) hd, fun k fs cv dx H' s x h => hE k fs cv dx H' (sq_ s1 s) x h⟩, hE⟩
theorem e_call0 (F : FnOk X.prog X.w X.K X.mg X.base (L2.CX X.prog X.w) k fa fd ps (spF X.K P ps.length (cl.call f))) (tk : Takes X W) (hr : Room k X.A) (hg : Gl X x) (hm : X.mg x = some (.ref fa)) (hk : PySem.W.keepIn X.K (.ref fa) = true) (hb : Binds X.K fd ps [])
    (hl : 0 = ps.length) (hdb : (x == ("__debug__" : Str)) = false) : PE X (.Call (.Name x p) [] [] pos) (tE X.K P cl W (.call f [] [])) := by
  refine ⟨fun pins s σ H Q I h => ?_⟩
  obtain ⟨S0, LL, ρ, q, e, R, hw, hq, hE⟩ := h
  refine wpAny_Call_Name_kw (ld_glob I hg hm ?_ hdb)
  refine PySem.W.callWith_K0 I.kIn hk ?_
  refine run_fnS (E := WE W) F hr hb (passAt tk σ) I (us := []) .nil ⟨[], _, q, e, .nil, R.nmF (nm := []) (Same.refl H), hw, hl, fun d v H' s r hd => hq d v H' s (.fls r) hd, fun k fs cv dx H' s x h => hE k fs cv dx H' s x h⟩
end
end
end Uq

set_option maxHeartbeats 1000000
/-! Uq, part h: built-ins. -/
namespace Uq
open PySem PySem.Spec PyProof.Rows L2
section
variable {K : PySem.W.Frag} {S : Addr → Prop} {H : Hp}
theorem ints_eq : ∀ {ds : List D} {ns : List Int}, ints? ds = some ns → ds = ns.map PyData.int
  | [], ns, h => by simp only [ints?] at h; cases h; rfl
  | d :: ds, ns, h => by
    cases d with
    | int i =>
      simp only [ints?] at h
      cases e : ints? ds with
      | none => rw [e] at h; cases h
      | some ms =>
        rw [e] at h
        have h' : some (i :: ms) = some ns := h
        cases h'
        rw [ints_eq e]; rfl
    | _ => simp only [ints?] at h; cases h
theorem bools_eq : ∀ {ds : List D} {ns : List Bool}, bools? ds = some ns → ds = ns.map PyData.bool
  | [], ns, h => by simp only [bools?] at h; cases h; rfl
  | d :: ds, ns, h => by
    cases d with
    | bool i =>
      simp only [bools?] at h
      cases e : bools? ds with
      | none => rw [e] at h; cases h
      | some ms =>
        rw [e] at h
        have h' : some (i :: ms) = some ns := h
        cases h'
        rw [bools_eq e]; rfl
    | _ => simp only [bools?] at h; cases h
theorem Rps.ints_ : ∀ {ns : List Int} {xs : List V}, Rps K S H (ns.map PyData.int) xs → xs = ns.map V.int
  | [], xs, h => by simpa only [List.map_nil, Rps] using h
  | n :: ns, xs, h => by
    simp only [List.map_cons, Rps] at h
    obtain ⟨v, r, rfl, h1, h2⟩ := h
    rw [h1.int_, Rps.ints_ h2]; rfl
theorem Rps.bools_ : ∀ {ns : List Bool} {xs : List V}, Rps K S H (ns.map PyData.bool) xs → xs = ns.map V.bl
  | [], xs, h => by simpa only [List.map_nil, Rps] using h
  | n :: ns, xs, h => by
    simp only [List.map_cons, Rps] at h
    obtain ⟨v, r, rfl, h1, h2⟩ := h
    rw [h1.bl_, Rps.bools_ h2]; rfl
theorem Rps.one_ {d : D} {vs : List V} (h : Rps K S H [d] vs) : ∃ v, vs = [v] ∧ Rp K S H d v := by
  simp only [Rps] at h
  obtain ⟨v, r, rfl, h1, rfl⟩ := h
  exact ⟨v, rfl, h1⟩
theorem Rps.two_ {d e : D} {vs : List V} (h : Rps K S H [d, e] vs) : ∃ v w, vs = [v, w] ∧ Rp K S H d v ∧ Rp K S H e w := by
  simp only [Rps] at h
  obtain ⟨v, r, rfl, h1, w, r2, rfl, h2, rfl⟩ := h
  exact ⟨v, w, rfl, h1, h2⟩
end
def rBi (K : PySem.W.Frag) (f : Bi) : List V → Hp → VK → Prop := fun vs H Q => ∃ (S : Addr → Prop) (ds : List D) (q : QD), Rps K S H ds vs ∧ (∀ a, H a = none → S a) ∧ biR f ds q ∧ ∀ d v H', Same H H' → Res K S H H' true d v → q d → Q v H'
section
variable {X : Cx}
theorem bi_len : CallR X (.builtin "len") (rBi X.K .len) := by
  intro pins s σ H vs us Q I r h
  obtain ⟨S, ds, q, hr, hS, hb, cont⟩ := h
  have fin : ∀ n : Nat, q (.int n) → Q (.int n) H := fun n h => cont _ _ H (Same.refl H) res_int h
  unfold biR at hb
  split at hb <;> first | exact hb.elim | contradiction | skip
  · obtain ⟨v, rfl, h1⟩ := hr.one_
    obtain ⟨a, xs, rfl, _, ha, r1⟩ := h1.lst_
    exact call_len_seq pins s σ H _ us Q I r ⟨a, xs, rfl, .inl (SqL.of ha), by rw [← r1.length]; exact fin _ hb⟩
  · obtain ⟨v, rfl, h1⟩ := hr.one_
    obtain ⟨a, xs, rfl, ha, r1⟩ := h1.tup_
    exact call_len_seq pins s σ H _ us Q I r ⟨a, xs, rfl, .inr ha, by rw [← r1.length]; exact fin _ hb⟩
  · obtain ⟨v, rfl, h1⟩ := hr.one_
    obtain ⟨a, ns, rfl, ha, e⟩ := h1.dic_
    exact call_len_seq pins s σ H _ us Q I r ⟨a, _, rfl, .inl ha.sq, by rw [List.length_map]; rw [e, List.length_map] at hb; exact fin _ hb⟩
  · obtain ⟨v, rfl, h1⟩ := hr.one_
    have e := h1.str_; subst e
    exact call_len pins s σ H _ us Q I r ⟨_, _, rfl, ⟨hb.1, rfl⟩, fin _ hb.2⟩
theorem bi_abs : CallR X (.builtin "abs") (rBi X.K .abs) := by
  intro pins s σ H vs us Q I r h
  obtain ⟨S, ds, q, hr, hS, hb, cont⟩ := h
  unfold biR at hb
  split at hb <;> first | exact hb.elim | contradiction | skip
  obtain ⟨v, rfl, h1⟩ := hr.one_
  have e := h1.int_; subst e
  exact call_abs pins s σ H _ us Q I r ⟨_, rfl, cont _ _ H (Same.refl H) res_int hb⟩
theorem bi_int : CallR X (.type "int") (rBi X.K .int) := by
  intro pins s σ H vs us Q I r h
  obtain ⟨S, ds, q, hr, hS, hb, cont⟩ := h
  unfold biR at hb
  split at hb <;> first | exact hb.elim | contradiction | skip
  · obtain ⟨v, rfl, h1⟩ := hr.one_
    have e := h1.int_; subst e
    exact call_int1 pins s σ H _ us Q I r (.inl ⟨_, rfl, cont _ _ H (Same.refl H) res_int hb⟩)
  · obtain ⟨v, rfl, h1⟩ := hr.one_
    have e := h1.bl_; subst e
    exact call_int1 pins s σ H _ us Q I r (.inr ⟨_, rfl, cont _ _ H (Same.refl H) res_int hb⟩)
theorem bi_bool : CallR X (.type "bool") (rBi X.K .bool) := by
  intro pins s σ H vs us Q I r h
  obtain ⟨S, ds, q, hr, hS, hb, cont⟩ := h
  unfold biR at hb
  split at hb <;> first | exact hb.elim | contradiction | skip
  · obtain ⟨v, rfl, h1⟩ := hr.one_
    have e := h1.int_; subst e
    exact call_bool1 pins s σ H _ us Q I r (.inl ⟨_, rfl, cont _ _ H (Same.refl H) res_bl hb⟩)
  · obtain ⟨v, rfl, h1⟩ := hr.one_
    have e := h1.bl_; subst e
    exact call_bool1 pins s σ H _ us Q I r (.inr ⟨_, rfl, cont _ _ H (Same.refl H) res_bl hb⟩)
theorem bi_max (hc : X.calm = true) : CallR X (.builtin "max") (rBi X.K .max) := by
  intro pins s σ H vs us Q I r h
  obtain ⟨S, ds, q, hr, hS, hb, cont⟩ := h
  unfold biR at hb
  split at hb <;> first | exact hb.elim | contradiction | skip
  · obtain ⟨v, w, rfl, h1, h2⟩ := hr.two_
    have e := h1.int_; subst e
    have e := h2.int_; subst e
    exact call_max2 hc pins s σ H _ us Q I r ⟨_, _, rfl, cont _ _ H (Same.refl H) res_int hb⟩
  · obtain ⟨v, rfl, h1⟩ := hr.one_
    obtain ⟨a, xs, rfl, _, ha, r1⟩ := h1.lst_
    obtain ⟨ns, e1, e2, e3⟩ := hb
    rw [ints_eq e1] at r1
    rw [r1.ints_] at ha
    exact cr_max hc pins s σ H _ us Q I r ⟨a, ns, rfl, SqL.of ha, e2, fun m h1 h2 => cont _ _ H (Same.refl H) res_int (e3 m h1 h2)⟩
theorem bi_min (hc : X.calm = true) : CallR X (.builtin "min") (rBi X.K .min) := by
  intro pins s σ H vs us Q I r h
  obtain ⟨S, ds, q, hr, hS, hb, cont⟩ := h
  unfold biR at hb
  split at hb <;> first | exact hb.elim | contradiction | skip
  · obtain ⟨v, w, rfl, h1, h2⟩ := hr.two_
    have e := h1.int_; subst e
    have e := h2.int_; subst e
    exact call_min2 hc pins s σ H _ us Q I r ⟨_, _, rfl, cont _ _ H (Same.refl H) res_int hb⟩
  · obtain ⟨v, rfl, h1⟩ := hr.one_
    obtain ⟨a, xs, rfl, _, ha, r1⟩ := h1.lst_
    obtain ⟨ns, e1, e2, e3⟩ := hb
    rw [ints_eq e1] at r1
    rw [r1.ints_] at ha
    exact cr_min hc pins s σ H _ us Q I r ⟨a, ns, rfl, SqL.of ha, e2, fun m h1 h2 => cont _ _ H (Same.refl H) res_int (e3 m h1 h2)⟩
theorem bi_tuple : CallR X (.type "tuple") (rBi X.K .tuple) := by
  intro pins s σ H vs us Q I r h
  obtain ⟨S, ds, q, hr, hS, hb, cont⟩ := h
  unfold biR at hb
  split at hb <;> first | exact hb.elim | contradiction | skip
  · obtain ⟨v, rfl, h1⟩ := hr.one_
    obtain ⟨a, xs, rfl, _, ha, r1⟩ := h1.lst_
    exact call_tuple_of pins s σ H _ us Q I r ⟨a, xs, rfl, .inl ⟨SqL.of ha, fun p hp => cont _ _ _ (same_upd hp) (res_of (new_tup r1 hp) fun _ e => by cases e) hb⟩⟩
  · obtain ⟨v, rfl, h1⟩ := hr.one_
    obtain ⟨a, xs, rfl, ha, r1⟩ := h1.tup_
    exact call_tuple_of pins s σ H _ us Q I r ⟨a, xs, rfl, .inr ⟨ha, cont _ _ H (Same.refl H) (res_of h1 fun _ e => by cases e) hb⟩⟩
theorem bi_list : CallR X (.type "list") (rBi X.K .list) := by
  intro pins s σ H vs us Q I r h
  obtain ⟨S, ds, q, hr, hS, hb, cont⟩ := h
  unfold biR at hb
  split at hb <;> first | exact hb.elim | contradiction | skip
  · obtain ⟨v, rfl, h1⟩ := hr.one_
    obtain ⟨a, xs, rfl, _, ha, r1⟩ := h1.lst_
    exact call_list_of pins s σ H _ us Q I r ⟨a, xs, rfl, .inl (SqL.of ha), fun p hp => cont _ _ _ (same_upd hp) (new_lst r1 hp (hS p hp)) hb⟩
  · obtain ⟨v, rfl, h1⟩ := hr.one_
    obtain ⟨a, xs, rfl, ha, r1⟩ := h1.tup_
    exact call_list_of pins s σ H _ us Q I r ⟨a, xs, rfl, .inr ha, fun p hp => cont _ _ _ (same_upd hp) (new_lst r1 hp (hS p hp)) hb⟩
theorem bi_any (hc : X.calm = true) : CallR X (.builtin "any") (rBi X.K .any) := by
  intro pins s σ H vs us Q I r h
  obtain ⟨S, ds, q, hr, hS, hb, cont⟩ := h
  unfold biR at hb
  split at hb <;> first | exact hb.elim | contradiction | skip
  obtain ⟨v, rfl, h1⟩ := hr.one_
  obtain ⟨a, xs, rfl, _, ha, r1⟩ := h1.lst_
  obtain ⟨ns, e1, e3⟩ := hb
  rw [bools_eq e1] at r1
  rw [r1.bools_] at ha
  exact cr_any hc pins s σ H _ us Q I r ⟨a, ns, rfl, SqL.of ha, cont _ _ H (Same.refl H) res_bl e3⟩
theorem bi_all (hc : X.calm = true) : CallR X (.builtin "all") (rBi X.K .all) := by
  intro pins s σ H vs us Q I r h
  obtain ⟨S, ds, q, hr, hS, hb, cont⟩ := h
  unfold biR at hb
  split at hb <;> first | exact hb.elim | contradiction | skip
  obtain ⟨v, rfl, h1⟩ := hr.one_
  obtain ⟨a, xs, rfl, _, ha, r1⟩ := h1.lst_
  obtain ⟨ns, e1, e3⟩ := hb
  rw [bools_eq e1] at r1
  rw [r1.bools_] at ha
  exact cr_all hc pins s σ H _ us Q I r ⟨a, ns, rfl, SqL.of ha, cont _ _ H (Same.refl H) res_bl e3⟩
theorem bi_sum (hc : X.calm = true) : CallR X (.builtin "sum") (rBi X.K .sum) := by
  intro pins s σ H vs us Q I r h
  obtain ⟨S, ds, q, hr, hS, hb, cont⟩ := h
  unfold biR at hb
  split at hb <;> first | exact hb.elim | contradiction | skip
  obtain ⟨v, rfl, h1⟩ := hr.one_
  obtain ⟨a, xs, rfl, _, ha, r1⟩ := h1.lst_
  obtain ⟨ns, e1, e3⟩ := hb
  rw [ints_eq e1] at r1
  rw [r1.ints_] at ha
  exact cr_sum hc pins s σ H _ us Q I r ⟨a, ns, rfl, SqL.of ha, cont _ _ H (Same.refl H) res_int e3⟩
/-! ### sorted -/
theorem collect_tupU {prog : Program} {w : World} {A : Around} {E : Value → Shared → Prop} {s : Shared} {l : Addr} {vs : List Value} {Q : List Value → Shared → Prop} (hl : IsTup s.heap l vs.toArray)
    (h : Q vs { s with heap := (s.heap.push (seqObj "list" #[] 0)).update s.heap.objs.size (Obj.mapSeq (· ++ vs.toArray)) }) (hsz : vs.length ≤ sizeLine) :
    wpAny (model prog w) A (collect (.ref l)) Q E s := by
  obtain ⟨o, ho, hc, n, hd⟩ := id hl
  unfold collect
  refine wpAny_bind (wpAny_runValue (codeAny_builtin entry_proto_collect' ?_))
  show wpAny _ _ (do again (.builtin "list.__iadd__" ⟨[← newList [], .ref l], []⟩)) _ _ s
  refine wpAny_bind (wpAny_newList (wpAny_pure ⟨Code.quiet_builtin _ (by decide +kernel), codeAny_builtin entry_list_iadd' ?_⟩))
  show wpAny _ _ (Builtin.List.listExtendWith (.ref s.heap.objs.size) (.ref l) (.ref s.heap.objs.size)) _ _ { s with heap := s.heap.push (seqObj "list" #[] 0) }
  unfold Builtin.List.listExtendWith
  have ho' : (s.heap.push (seqObj "list" #[] 0)).get? l = some o := Heap.get?_push_of_some _ ho
  refine wpAny_bind (wpAny_typeOf (T := "tuple") ⟨o, ho', hc⟩ ?_)
  have ht : (Value.type "tuple" == Value.type "tuple") = true := by rfl
  rw [if_pos (by rw [ht]; simp)]
  refine wpAny_bind (listItems_at ho' hd ?_)
  refine wpAny_bind (listItems_at (xs := #[]) (n := 0) (Heap.get?_push_size _ rfl) rfl ?_)
  rw [if_neg (by simp)]
  refine wpAny_bind (listUpdate_at (xs := #[]) (n := 0) (Heap.get?_push_size _ rfl) rfl ?_ (Nat.zero_le _) (by show (#[] ++ vs.toArray).size ≤ sizeLine + 1; simp only [Array.size_append, List.size_toArray, List.length_nil]; omega))
  refine wpAny_pure ?_
  show wpAny (model prog w) A (do
      let o ← load s.heap.objs.size
      match o.data with
      | .seq xs _ => pure xs.toList
      | _ => unsupported "internal:collect") Q E { s with heap := (s.heap.push (seqObj "list" #[] 0)).update s.heap.objs.size (Obj.mapSeq (· ++ vs.toArray)) }
  refine wpAny_bind (wpAny_load (get?_update_seq (Heap.get?_push_size _ rfl) _) ?_)
  show wpAny _ _ (pure ((#[] : Array Value) ++ vs.toArray).toList) Q E _
  rw [show ((#[] : Array Value) ++ vs.toArray).toList = vs by simp]
  exact wpAny_pure h
theorem sorted_of_sortU {prog : Program} {w : World} {A : Around} {E : Value → Shared → Prop} {s : Shared} {l : Addr} {vs : List Value} {Q : Value → Shared → Prop} (hl : IsTup s.heap l vs.toArray) (hL : vs.length ≤ sizeLine)
    (body : ∀ E' : Value → Shared → Prop, wpAny (model prog w) A.in1.in1 (Builtin.«list.sort» ⟨[.ref (s.heap.objs.size + 1)], []⟩) (fun f s' => f = .done (.ret .none) ∧ Q (.ref (s.heap.objs.size + 1)) s') E' { s with heap := W.copyHeap s.heap vs }) :
    wpAny (model prog w) A (call (.builtin "sorted") [.ref l] []) Q E s := by
  refine Calls.call_function_entry kind_sorted plain_sorted entry_sorted (args_sorted1 _) ?_
  unfold Builtin.«sorted»
  refine wpAny_bind (m := checkCount "sorted" 1 1 _) (wpAny_pure ?_)
  refine wpAny_bind (collect_tupU hl ?_ hL)
  refine wpAny_bind (wpAny_newList ?_ hL)
  have hsz : ((s.heap.push (seqObj "list" #[] 0)).update s.heap.objs.size (Obj.mapSeq (· ++ vs.toArray))).objs.size = s.heap.objs.size + 1 := by
    rw [Heap.size_update, size_push']
  show wpAny _ _ _ _ _ { s with heap := W.copyHeap s.heap vs }
  rw [hsz]
  refine wpAny_bind (wpAny_holding (wpAny_call_entry_kw slot_list_sort ⟨_, W.copyHeap_at s.heap vs, rfl⟩ entry_list_sort ?body (args_list_sort _)))
  case body =>
    show wpAny (model prog w) A.in1.in1 (Builtin.«list.sort» ⟨[.ref (s.heap.objs.size + 1)], []⟩) _ _ _
    refine wpAny_mono (body _) (fun f s' hf => ?_) fun _ _ e => e
    obtain ⟨rfl, hq⟩ := hf
    exact ⟨_, rfl, wpAny_pure ⟨_, rfl, hq⟩⟩
theorem reads_all {pins : List (Addr × Obj)} {σ : L2.St} {H : Hp} {s : Shared} {S : Addr → Prop} (I : L2.Inv X pins σ H s) : ∀ {ds : List D} {xs : List V} {us : List Value}, Rps X.K S H ds xs → Vals xs us → (∀ d ∈ ds, SeqAt.shaped d = true) →
    W.EachIs (fun (u : Value) (d : D) => ∃ v, RelV v u ∧ Rp X.K S H d v) us ds ∧ W.EachIs (fun (u : Value) (d : D) => ∃ as, Reads s.heap u (id d) as) us ds
  | [], xs, us, h, r, _ => by
    simp only [Rps] at h
    subst h
    cases r
    exact ⟨.nil, .nil⟩
  | d :: ds, xs, us, h, r, hs => by
    simp only [Rps] at h
    obtain ⟨v, xs', rfl, h1, h2⟩ := h
    cases r with
    | cons r rr =>
      obtain ⟨i1, i2⟩ := reads_all I h2 rr fun d hd => hs d (List.mem_cons_of_mem _ hd)
      obtain ⟨as, q⟩ := Dp.reads I d v _ (h1.dp _ _ (hs d List.mem_cons_self)) r
      exact ⟨.cons ⟨v, r, h1⟩ i1, .cons ⟨as, q⟩ i2⟩
theorem each_back {K : PySem.W.Frag} {S : Addr → Prop} {H : Hp} : ∀ {us : List Value} {ds : List D}, W.EachIs (fun (u : Value) (d : D) => ∃ v, RelV v u ∧ Rp K S H d v) us ds → ∃ xs, Vals xs us ∧ Rps K S H ds xs
  | _, _, .nil => ⟨[], .nil, .nil⟩
  | _, _, .cons ⟨v, r, h⟩ e => let ⟨xs, r', h'⟩ := each_back e; ⟨v :: xs, .cons r r', .cons h h'⟩
theorem sorted_dataU {prog : Program} {w : World} {A : Around} {E : Value → Shared → Prop} {s : Shared} {l : Addr} {vs : List Value} {ds : List D} {R : Value → D → Prop} {Q : Value → Shared → Prop} (hl : IsTup s.heap l vs.toArray) (e : W.EachIs R vs ds) (er : W.EachIs (fun v b => ∃ as, Reads s.heap v (id b) as) vs ds) (hal : W.AllAlike (ds.map id)) (hk : W.Sortable (ds.map id)) (hL : ds.length ≤ sizeLine)
    (hu : ∀ b, b ∈ ds → A.units + 2 + (id b : D).depth < cLine) (h : ∀ out, out.length = ds.length → W.EachIs R out (ds.mergeSort (W.dataLe false id)) → Q (.ref (s.heap.objs.size + 1)) { s with heap := sortedAll s.heap vs (List.toArray out) }) :
    wpAny (model prog w) A (call (.builtin "sorted") [.ref l] []) Q E s := by
  have er' : W.EachIs (fun v b => ∃ as, Reads (W.sortingHeap (W.copyHeap s.heap vs) (s.heap.objs.size + 1) vs) v (id b) as) vs ds := er.mono fun _ _ ⟨as, r⟩ => ⟨as, PyProof.Rows.Reads.keeps (fun _ _ => W.sorting_copy_old) r⟩
  have hL2 : vs.length ≤ sizeLine := by rw [e.length]; exact hL
  exact sorted_of_sortU hl hL2 fun _ => W.list_sort_vals (s := { s with heap := W.copyHeap s.heap vs }) (W.copyHeap_at s.heap vs)
    (W.SortsAt.data (s := { s with heap := W.sortingHeap (W.copyHeap s.heap vs) (s.heap.objs.size + 1) vs }) (W.each_map (R := fun v d => ∃ as, Reads (W.sortingHeap (W.copyHeap s.heap vs) (s.heap.objs.size + 1) vs) v d as) id er') hal hk (W.bound_map hu)) hL2
    ⟨rfl, h _ (by rw [W.sortVals_length false rfl]; exact e.length) (W.sortVals_data false e er' hal)⟩
theorem bi_sorted (hu : X.A.units + 70 < cLine) : CallR X (.builtin "sorted") (rBi X.K .sorted) := by
  intro pins s σ H vs us Q I r h
  obtain ⟨S, ds, q, hr, hS, hb, cont⟩ := h
  unfold biR at hb
  split at hb <;> first | exact hb.elim | contradiction | skip
  · obtain ⟨v, rfl, h1⟩ := hr.one_
    obtain ⟨a, xs, rfl, _, ha, r1⟩ := h1.lst_
    obtain ⟨⟨al, so, sh⟩, hq⟩ := hb
    obtain ⟨u, rfl, ru⟩ := vals1 r
    cases (show u = Value.ref a from ru)
    obtain ⟨its, rv, pl, hz⟩ := I.list (SqL.of ha)
    obtain ⟨e1, e2⟩ := reads_all I r1 rv sh
    refine W.sorted_data (enc := id) pl.isList e1 e2 (by simpa using al) (by simpa using so) (by rw [r1.length]; exact hz) (fun d hd => ?_) fun out ho e3 => ?_
    · have := SeqAt.depth_of_shaped (sh d hd)
      show X.A.units + 2 + PyData.depth d < cLine
      omega
    · obtain ⟨ys, rv', r3⟩ := each_back e3
      obtain ⟨ep, hat⟩ := sortedAll_at s.heap its out.toArray
      have hn : H (s.heap.objs.size + 1) = none := I.hok.fresh (by omega)
      have hy : ys.length ≤ sizeLine := by rw [rv'.length, ho, r1.length]; exact hz
      refine ⟨.ref (s.heap.objs.size + 1), _, I.laid (t' := s.toks) (fun b o hb => sortedAll_old hb) (by omega) ?_, rfl, cont _ _ _ (same_upd hn) (new_lst r3 hn (hS _ hn)) hq⟩
      exact ⟨hy, out, ep, rv', hat⟩
  · obtain ⟨v, rfl, h1⟩ := hr.one_
    obtain ⟨a, xs, rfl, ha, r1⟩ := h1.tup_
    obtain ⟨⟨al, so, sh⟩, hq⟩ := hb
    obtain ⟨u, rfl, ru⟩ := vals1 r
    cases (show u = Value.ref a from ru)
    obtain ⟨its, rv, pl, hz⟩ := I.tuple ha
    obtain ⟨e1, e2⟩ := reads_all I r1 rv sh
    refine sorted_dataU pl e1 e2 (by simpa using al) (by simpa using so) (by rw [r1.length]; exact hz) (fun d hd => ?_) fun out ho e3 => ?_
    · have := SeqAt.depth_of_shaped (sh d hd)
      show X.A.units + 2 + PyData.depth d < cLine
      omega
    · obtain ⟨ys, rv', r3⟩ := each_back e3
      obtain ⟨ep, hat⟩ := sortedAll_at s.heap its out.toArray
      have hn : H (s.heap.objs.size + 1) = none := I.hok.fresh (by omega)
      have hy : ys.length ≤ sizeLine := by rw [rv'.length, ho, r1.length]; exact hz
      refine ⟨.ref (s.heap.objs.size + 1), _, I.laid (t' := s.toks) (fun b o hb => sortedAll_old hb) (by omega) ?_, rfl, cont _ _ _ (same_upd hn) (new_lst r3 hn (hS _ hn)) hq⟩
      exact ⟨hy, out, ep, rv', hat⟩
end
end Uq

set_option maxHeartbeats 1000000
/-! Uq, part i: built-ins as calls, isinstance, calls by keywords. -/
namespace Uq
open PySem PySem.Spec PyProof.Rows L2
section
variable {X : Cx} {P : Pg} {cl : Cl} {W : WX} {a' b' : Expr} {a b : C} {pos p : Pos} {x : Str} {cs ds : List C} {es : List Expr} {f : Bi} {id T : String}
theorem bi_read {K : PySem.W.Frag} {σ : L2.St} {H : Hp} {Q : VK} (h : tE K P cl W (.bi f cs) σ H Q) : tCB (rBi K f) (tEsL K P cl W cs) σ H Q := by
  obtain ⟨S0, LL, ρ, q, e, R, hw, hq, he⟩ := h
  exact ⟨S0, LL, ρ, _, e, R, hw, fun ds vs H1 s1 r1 l1 h1 => ⟨_, ds, q, r1, R.nmF s1, h1, fun d v H' s r hd => hq d v H' (sq_ s1 s) (Res.from s1 r).any hd⟩, he⟩
theorem e_biB (hc : CallR X (.builtin id) (rBi X.K f)) (hg : Gl X x) (hm : X.mg x = none) (hv : bootBuiltins x = some (.builtin id)) (ha : PA X (a' :: es) (tEsL X.K P cl W cs)) (hn : x ≠ "__name__") (hdb : (x == ("__debug__" : Str)) = false)
    (he : starEach (a' :: es) X.env = (false, eval a' X.env) :: starEach es X.env) (hpl : (backTo pos (starEach es X.env)).any (·.1) = false) : PE X (.Call (.Name x p) (a' :: es) [] pos) (tE X.K P cl W (.bi f cs)) :=
  peI (pe_callB hc hg hm hv ha hn hdb he hpl) fun σ H Q h => bi_read h
theorem e_biT (hc : CallR X (.type T) (rBi X.K f)) (hg : Gl X x) (hm : X.mg x = none) (hv : bootBuiltins x = some (.type T)) (ha : PA X (a' :: es) (tEsL X.K P cl W cs)) (hn : x ≠ "__name__") (hdb : (x == ("__debug__" : Str)) = false)
    (he : starEach (a' :: es) X.env = (false, eval a' X.env) :: starEach es X.env) (hpl : (backTo pos (starEach es X.env)).any (·.1) = false) : PE X (.Call (.Name x p) (a' :: es) [] pos) (tE X.K P cl W (.bi f cs)) :=
  peI (pe_callTy hc hg hm hv ha hn hdb he hpl) fun σ H Q h => bi_read h
theorem e_bi0 {e : Expr} : PE X e (tE X.K P cl W (.bi f [])) := ⟨fun pins s σ H Q I h => by
  obtain ⟨S0, LL, ρ, q, e, R, hw, hq, he⟩ := h
  have hw' : biR f [] q := hw
  unfold biR at hw'
  split at hw' <;> first | exact hw'.elim | contradiction⟩
theorem e_bits {apos : Pos} (ha : PE X a' (tE X.K P cl W a)) (hbase : attributeBase a' "bit_length" X.env (eval a' X.env) = eval a' X.env) (hline : (apos.endLine == pos.line) = true) : PE X (.Call (.Attribute a' "bit_length" apos) [] [] pos) (tE X.K P cl W (.bi .bits [a])) := by
  refine peI (pe_bits ha hbase hline) fun σ H Q ⟨S0, LL, ρ, q, e, R, hw, hq, he⟩ => ⟨S0, LL, ρ, _, e, R, hw, fun d v H1 s1 r1 h1 => ?_, he⟩
  have h1 : biR .bits [d] q := h1
  cases d <;> first | exact h1.elim | skip
  exact ⟨_, r1.1.int_, hq _ _ H1 s1 res_int h1⟩
/-! ### isinstance -/
def dTy : D → String
  | .none => "NoneType"
  | .bool _ => "bool"
  | .int _ => "int"
  | .str _ => "str"
  | .list _ => "list"
  | .tuple _ => "tuple"
  | .dict _ => "dict"
theorem dTyX {K : PySem.W.Frag} {S : Addr → Prop} {H : Hp} {d : D} {v : V} (h : Rp K S H d v) (ho : opq d = false) : TyX K H v (.type (dTy d)) := by
  cases d with
  | none => have e := h.non_; subst e; exact .base .non
  | bool b => have e := h.bl_; subst e; exact .base (.bl _)
  | int b => have e := h.int_; subst e; exact .base (.int _)
  | str b => have e := h.str_; subst e; exact .base (.str _)
  | list ds => obtain ⟨a, xs, rfl, _, ha, _⟩ := h.lst_; exact .base (.lst ha)
  | tuple ds =>
    obtain ⟨a, xs, rfl, ha, _⟩ := h.tup_
    rcases ha with (ha | ⟨o, ha⟩) | ⟨o, its, n, h1, h2, _⟩
    · exact .base (.tup ha)
    · exact .fTuple ha
    · exact .kTuple h1 h2
  | dict ds => cases ho
def tyS : Ty → String
  | .int => "int"
  | .bool => "bool"
  | .str => "str"
  | .tuple => "tuple"
  | .list => "list"
  | .dict => "dict"
theorem kitTbl (t : Ty) : kitB "NoneType" (tyS t) = some false ∧ kitB "bool" (tyS t) = some (decide (t = .int ∨ t = .bool)) ∧ kitB "int" (tyS t) = some (decide (t = .int)) ∧ kitB "str" (tyS t) = some (decide (t = .str)) ∧ kitB "list" (tyS t) = some (decide (t = .list)) ∧
    kitB "tuple" (tyS t) = some (decide (t = .tuple)) := by cases t <;> decide +kernel
theorem kitT {K : PySem.W.Frag} {d : D} (ho : opq d = false) (t : Ty) : PySem.W.kitOne K (.type (dTy d)) (.type (tyS t)) = some (isTy t d) := by
  refine kit_ty ?_
  obtain ⟨h1, h2, h3, h4, h5, h6⟩ := kitTbl t
  cases d with
  | none => exact h1.trans (by cases t <;> rfl)
  | bool b => exact h2.trans (by cases t <;> rfl)
  | int b => exact h3.trans (by cases t <;> rfl)
  | str b => exact h4.trans (by cases t <;> rfl)
  | list b => exact h5.trans (by cases t <;> rfl)
  | tuple b => exact h6.trans (by cases t <;> rfl)
  | dict b => cases ho
theorem tyBoot (t : Ty) : bootBuiltins (tyN t) = some (.type (tyS t)) := by cases t <;> decide +kernel
theorem kitTs {K : PySem.W.Frag} {d : D} (ho : opq d = false) : ∀ ts : List Ty, PySem.W.kitAny K (.type (dTy d)) (ts.map fun t => Value.type (tyS t)) = some (ts.any fun t => isTy t d)
  | [] => kitAny_nil
  | t :: ts => by
    refine kitAny_cons (kitT ho t) (fun e => ?_) fun e => ?_
    · rw [List.any_cons, e, Bool.false_or]; exact kitTs ho ts
    · rw [List.any_cons, e, Bool.true_or]
/-- the types' names, all built-ins here -/
structure TyFree (X : Cx) (t : Ty) : Prop where
  gl : Gl X (tyN t)
  mg : X.mg (tyN t) = none
theorem e_ty {t : Ty} (F : TyFree X t) : PE X (.Name (tyN t) pos) (tC (.ty (tyS t))) :=
  pe_bltn F.gl F.mg (tyBoot t) rfl (by cases t <;> decide) (by cases t <;> decide)
def tLs (vs : List V) : TA := fun _ H Q => Q vs H
theorem pa_tys : ∀ (ts : List Ty) (es : List Expr), (∀ t ∈ ts, TyFree X t) → chkTys X.env.scope ts es = true → PA X es (tLs (ts.map fun t => .ty (tyS t)))
  | [], [], _, _ => paI pa_nil fun _ _ _ h => h
  | t :: ts, e :: es, F, h => by
    simp only [chkTys, Bool.and_eq_true] at h
    have he : ∃ p, e = .Name (tyN t) p := by
      have h1 := h.1.1
      unfold nameIs at h1
      split at h1
      · rename_i y p
        exact ⟨p, by rw [of_decide_eq_true h1]⟩
      · cases h1
    obtain ⟨p, rfl⟩ := he
    exact paI (pa_cons (e_ty (F t List.mem_cons_self)) (pa_tys ts es (fun t ht => F t (List.mem_cons_of_mem _ ht)) h.2) rfl) fun _ _ _ h => h
  | [], _ :: _, _, h => by cases h
  | _ :: _, [], _, h => by cases h
theorem paired_ty : ∀ ts : List Ty, Paired ClsV (ts.map fun t => V.ty (tyS t)) (ts.map fun t => Value.type (tyS t))
  | [] => .nil
  | t :: ts => .cons (.ty _) (paired_ty ts)
theorem isi_boot : bootBuiltins "isinstance" = some (.builtin "isinstance") := by decide +kernel
theorem e_isi1 {t : Ty} {q : Pos} (hg : Gl X "isinstance") (hm : X.mg "isinstance" = none) (F : TyFree X t) (ha : PE X a' (tE X.K P cl W a)) (hs : okE a' = true) : PE X (.Call (.Name "isinstance" p) [a', .Name (tyN t) q] [] pos) (tE X.K P cl W (.isi a [t])) := by
  have pa2 : PA X [.Name (tyN t) q] (tLs [.ty (tyS t)]) := paI (pa_cons (e_ty F) pa_nil rfl) fun _ _ _ h => h
  refine peI (pe_callB call_isi hg hm isi_boot (pa_cons ha pa2 (okE_star hs)) (by decide) (by decide) (okE_star hs) rfl) fun σ H Q ⟨S0, LL, ρ, q, e, R, hw, hq, he⟩ => ?_
  refine ⟨S0, LL, ρ, _, e, R, hw, fun d v H1 s1 r1 h1 => ?_, he⟩
  have k := kitT (K := X.K) h1.1 t
  refine ⟨v, .ty (tyS t), .type (dTy d), .type (tyS t), isTy t d, rfl, .ty _, dTyX r1.1 h1.1, k, hq _ _ H1 s1 res_bl ?_⟩
  have h2 := h1.2
  rwa [List.any_cons, List.any_nil, Bool.or_false] at h2
theorem e_isiT {ts : List Ty} {es : List Expr} {n : Nat} {q : Pos} (hg : Gl X "isinstance") (hm : X.mg "isinstance" = none) (F : ∀ t ∈ ts, TyFree X t) (hl : ts.length ≤ 10) (ht : chkTys X.env.scope ts es = true) (ha : PE X a' (tE X.K P cl W a)) (hs : okE a' = true) :
    PE X (.Call (.Name "isinstance" p) [a', .Tuple es n q] [] pos) (tE X.K P cl W (.isi a ts)) := by
  have pa1 := pa_tys (X := X) ts es F ht
  have pt : PE X (.Tuple es n q) (fun _ H Q => ∀ p, H p = none → Q (.ref p) (upd H p (.tup (ts.map fun t => V.ty (tyS t))))) := peI (pe_tup pa1) fun σ H Q h => ⟨by rw [List.length_map]; exact Nat.le_trans hl (by decide), h⟩
  have pa2 : PA X [.Tuple es n q] (fun _ H Q => ∀ p, H p = none → Q [.ref p] (upd H p (.tup (ts.map fun t => V.ty (tyS t))))) := paI (pa_cons pt pa_nil rfl) fun _ _ _ h => h
  refine peI (pe_callB call_isiT hg hm isi_boot (pa_cons ha pa2 (okE_star hs)) (by decide) (by decide) (okE_star hs) rfl) fun σ H Q ⟨S0, LL, ρ, q, e, R, hw, hq, he⟩ => ?_
  refine ⟨S0, LL, ρ, _, e, R, hw, fun d v H1 s1 r1 h1 => fun p hp => ?_, he⟩
  refine ⟨v, p, _, .type (dTy d), _, _, rfl, upd_same, paired_ty ts, dTyX (r1.1.same (same_upd hp)) h1.1, kitTs h1.1 ts, hq _ _ _ (sq_ s1 (same_upd hp)) res_bl h1.2⟩

/-! ### calls by keywords -/
def permU (pm : List Nat) (us ws : List Value) : List Value := pm.map fun j => (us ++ ws).getD j .none
theorem Vals.app : ∀ {vs : List V} {us : List Value} {zs : List V} {ws : List Value}, Vals vs us → Vals zs ws → Vals (vs ++ zs) (us ++ ws)
  | _, _, _, _, .nil, z => z
  | _, _, _, _, .cons r t, z => .cons r (Vals.app t z)
theorem Vals.permU {vs zs : List V} {us ws : List Value} (r : Vals vs us) (z : Vals zs ws) : ∀ pm : List Nat, Vals (permV pm vs zs) (permU pm us ws)
  | [] => .nil
  | j :: pm => by
    refine .cons ?_ (Vals.permU r z pm)
    have q := Vals.app r z
    show RelV ((vs ++ zs).getD j .non) ((us ++ ws).getD j .none)
    rw [List.getD_eq_getElem?_getD, List.getD_eq_getElem?_getD]
    cases e : (vs ++ zs)[j]? with
    | none =>
      have e2 : (us ++ ws)[j]? = none := by
        rw [List.getElem?_eq_none_iff] at e ⊢
        rw [← q.length]; exact e
      rw [e2]; rfl
    | some v =>
      obtain ⟨u, e2, r2⟩ := q.get e
      rw [e2]; exact r2
/-- a def's values by names, as the call is shaped -/
def Shp (K : PySem.W.Frag) (fd : FuncData) (ps : List Str) (n : Nat) (ks : List Str) : Prop := KBn K fd ps n ks (permU (pmOf ps n ks)) (permV (pmOf ps n ks))
theorem Shp.of {K : PySem.W.Frag} {fd : FuncData} {ps : List Str} {n : Nat} {ks : List Str} (h : ∀ (s : Shared) (us ws : List Value), K.In s.heap → us.length = n → ws.length = ks.length → BindsTo s fd ⟨us, ks.zip ws⟩ (ps.zip (permU (pmOf ps n ks) us ws))) : Shp K fd ps n ks :=
  ⟨h, fun r z => Vals.permU r z _⟩
theorem tEsK_tEsL {K : PySem.W.Frag} {σ : L2.St} {H : Hp} {Q : List V → List V → Hp → Prop} (h : tEsL K P cl W (cs ++ ds) σ H (fun vs H' => ∃ xs ys, vs = xs ++ ys ∧ xs.length = cs.length ∧ ys.length = ds.length ∧ Q xs ys H')) :
    tEsL K P cl W cs σ H fun xs H1 => tEsL K P cl W ds σ H1 fun ys H2 => xs.length = cs.length ∧ ys.length = ds.length ∧ Q xs ys H2 := by
  obtain ⟨S0, LL, ρ, q, e, R, hw, hq, he⟩ := h
  rw [wEs_app] at hw
  refine ⟨S0, LL, ρ, _, e, R, hw, fun d1 xs H1 s1 r1 l1 h1 => ⟨S0, LL, ρ, _, e, R.same s1, h1, fun d2 ys H2 s2 r2 l2 h2 => ?_, fun k fs cv dx H' s x h => he k fs cv dx H' (sq_ s1 s) x h⟩, he⟩
  have lx : xs.length = cs.length := r1.length.symm.trans l1
  have ly : ys.length = ds.length := r2.length.symm.trans l2
  have en : ∀ (cs ds : List C), nmsL (cs ++ ds) = nmsL cs ++ nmsL ds := fun cs => by
    induction cs with
    | nil => intro ds; rfl
    | cons c cs ih => intro ds; show nms c ++ nmsL (cs ++ ds) = nms c ++ nmsL cs ++ nmsL ds; rw [ih, List.append_assoc]
  have rr : Rps K (NmS S0 LL (nmsL (cs ++ ds))) H2 (d1 ++ d2) (xs ++ ys) := by
    rw [en]
    exact ((r1.same s2).wide fun _ _ _ z => z.sub inl_).append (r2.wide fun _ _ _ z => z.sub inr_)
  obtain ⟨xs', ys', e1, l1', l2', hQ⟩ := hq (d1 ++ d2) (xs ++ ys) H2 (sq_ s1 s2) rr (by rw [List.length_append, List.length_append, l1, l2]) h2
  have := List.append_inj e1 (by rw [lx, l1'])
  rw [this.1, this.2]
  exact ⟨l1', l2', hQ⟩
section
variable {k n : Nat} {fa : Addr} {fd : FuncData} {ps ks : List Str} {sp : Sp} {kws : List Keyword} {g : List Value → List Value → List Value} {gV : List V → List V → List V} {i : Nat}
theorem run_fnNS {E : XK} {pins : List (Addr × Obj)} {σ : L2.St} {H : Hp} {s : Shared} {Q : VK} {us ws : List Value} {vs zs : List V} (F : FnOk X.prog X.w X.K X.mg X.base (L2.CX X.prog X.w) k fa fd ps sp) (hr : Room k X.A) (hb : KBn X.K fd ps n ks g gV) (hx : PassesAt (L2.CX X.prog X.w) X σ E)
    (I : Inv X pins σ H s) (r : Vals vs us) (rz : Vals zs ws) (l1 : vs.length = n) (l2 : zs.length = ks.length) (h : sp (gV vs zs) H Q E) : wpAny (model X.prog X.w) X.A (call (.ref fa) us (ks.zip ws)) (EP X pins σ Q) X.xe s := by
  have r2 := hb.rel r rz
  refine wpAny_call (codeAny_mono (F.run X.A X.stack s H ⟨us, ks.zip ws⟩ (g us ws) (gV vs zs) Q E hr I.env0 (hb.to s us ws I.kIn (r.length.symm.trans l1) (rz.length.symm.trans l2)) r2 h) fun r s' hq => ?_)
  cases r with
  | error e => exact hx pins H s e s' I hq
  | ok fl =>
    cases fl with
    | ret u => exact I.after hq
    | next => exact False.elim hq
    | brk => exact False.elim hq
    | cont => exact False.elim hq
theorem kw_all (h : (kws.all fun k => k.arg.isSome) = true) (env : PySem.Env) : (backToKw pos (keywordEach kws env)).all (·.1.isSome) = true ∧ (backToKw pos (keywordEach kws env)).any (·.1.isNone) = false ∧ (backToKw pos (keywordEach kws env)).filterMap (·.1) = kwNames kws := by
  induction kws with
  | nil => exact ⟨rfl, rfl, rfl⟩
  | cons kw kws ih =>
    obtain ⟨nm, v, q⟩ := kw
    simp only [List.all_cons, Bool.and_eq_true] at h
    obtain ⟨i1, i2, i3⟩ := ih h.2
    cases nm with
    | none => cases h.1
    | some nm => exact ⟨i1, i2, congrArg (nm :: ·) i3⟩
/-- the values by place and by name -/
def PKs (X : Cx) (kws : List Keyword) (t : TA) : Prop := PK X kws t
theorem call_kw_read {K : PySem.W.Frag} {σ : L2.St} {H : Hp} {Q : VK} {f : Nat} (hn : cs.length = n) (hk : ds.length = ks.length) (hp : pmOf ps n ks ≠ []) (h : tE K P cl W (.call f (pmOf ps n ks) (cs ++ ds)) σ H Q) :
    tEsL K P cl W cs σ H fun vs H1 => tEsL K P cl W ds σ H1 fun zs H2 => vs.length = cs.length ∧ zs.length = ds.length ∧ spF K P ps.length (cl.call f) (permV (pmOf ps n ks) vs zs) H2 Q (WE W σ) := by
  obtain ⟨S0, LL, ρ, q, e, R, hw, hq, hE⟩ := h
  refine tEsK_tEsL ⟨S0, LL, ρ, _, e, R, hw, fun dd vs H1 s1 r1 l1 h1 => ?_, hE⟩
  have lv : vs.length = cs.length + ds.length := by rw [← r1.length, l1, List.length_append]
  refine ⟨vs.take cs.length, vs.drop cs.length, (List.take_append_drop _ _).symm, by rw [List.length_take]; omega, by rw [List.length_drop]; omega, ?_⟩
  have rp := r1.perm (pmOf ps n ks)
  have e1 : permV (pmOf ps n ks) (vs.take cs.length) (vs.drop cs.length) = (pmOf ps n ks).map fun j => vs.getD j .non := by unfold permV; rw [List.take_append_drop]
  have h1 : cl.call f (pmL (pmOf ps n ks) dd) q e := h1
  have e2 : pmL (pmOf ps n ks) dd = (pmOf ps n ks).map fun j => dd.getD j .none := by
    unfold pmL
    split
    · rename_i e; exact absurd e hp
    · rfl
  rw [e1]
  rw [e2] at h1
  exact ⟨_, _, q, e, rp, R.nmF s1, h1, by simp [pmOf], fun d v H' s r hd => hq d v H' (sq_ s1 s) (.fls r) hd, fun k fs cv dx H' s x h => hE k fs cv dx H' (sq_ s1 s) x h⟩
theorem e_callK {f : Nat} {e0 : Expr} (F : FnOk X.prog X.w X.K X.mg X.base (L2.CX X.prog X.w) k fa fd ps (spF X.K P ps.length (cl.call f))) (tk : Takes X W) (hr : Room k X.A) (hg : Gl X x) (hm : X.mg x = some (.ref fa)) (hk : PySem.W.keepIn X.K (.ref fa) = true) (hb : Shp X.K fd ps n ks)
    (hn : cs.length = n) (hks : ds.length = ks.length) (hp : pmOf ps n ks ≠ []) (ha : PA X (a' :: es) (tEsL X.K P cl W cs)) (hkw : PK X kws (tEsL X.K P cl W ds)) (hall : (kws.all fun k => k.arg.isSome) = true) (hnm : kwNames kws = ks) (hdb : (x == ("__debug__" : Str)) = false)
    (he : starEach (a' :: es) X.env = (false, eval a' X.env) :: starEach es X.env) (hpl : (backTo pos (starEach (a' :: es) X.env)).any (·.1) = false) : PE X (.Call (.Name x p) (a' :: es) kws pos) (tE X.K P cl W (.call f (pmOf ps n ks) (cs ++ ds))) := by
  obtain ⟨k1, k2, k3⟩ := kw_all (pos := pos) hall X.env
  refine ⟨fun pins s σ H Q I h => ?_⟩
  have h2 := call_kw_read hn hks hp h
  refine wpAny_Call_Name_kw (ld_glob I hg hm ?_ hdb)
  refine PySem.W.callWith_KW (h₀ := X.base) I.ok.mod.kin hk k1 (thn (ha.run pos pins s σ H _ I h2) fun us s1 ⟨vs, H1, I1, r, q⟩ => ?_) (by rw [hpl, k2]; rfl) he
  refine thn (hkw.run pos pins s1 σ H1 _ I1 q) fun ws s2 ⟨zs, H2, I2, rz, l1, l2, q2⟩ => ⟨I2.kIn, ?_⟩
  rw [k3, hnm]
  exact run_fnNS (E := WE W σ) F hr hb (passAt tk σ) I2 r rz (l1.trans hn) (l2.trans hks) q2
theorem e_callK0 {f : Nat} (F : FnOk X.prog X.w X.K X.mg X.base (L2.CX X.prog X.w) k fa fd ps (spF X.K P ps.length (cl.call f))) (tk : Takes X W) (hr : Room k X.A) (hg : Gl X x) (hm : X.mg x = some (.ref fa)) (hk : PySem.W.keepIn X.K (.ref fa) = true) (hb : Shp X.K fd ps 0 ks)
    (hks : ds.length = ks.length) (hp : pmOf ps 0 ks ≠ []) (hkw : PK X kws (tEsL X.K P cl W ds)) (hall : (kws.all fun k => k.arg.isSome) = true) (hnm : kwNames kws = ks) (hdb : (x == ("__debug__" : Str)) = false) :
    PE X (.Call (.Name x p) [] kws pos) (tE X.K P cl W (.call f (pmOf ps 0 ks) ds)) := by
  obtain ⟨k1, k2, k3⟩ := kw_all (pos := pos) hall X.env
  refine ⟨fun pins s σ H Q I h => ?_⟩
  have h2 := call_kw_read (cs := []) rfl hks hp h
  have h3 : tEsL X.K P cl W ds σ H fun zs H2 => zs.length = ds.length ∧ spF X.K P ps.length (cl.call f) (permV (pmOf ps 0 ks) [] zs) H2 Q (WE W σ) := by
    obtain ⟨S0, LL, ρ, q, e, R, hw, hq, hE⟩ := h2
    obtain ⟨S1, LL1, ρ1, q1, e1, R1, hw1, hq1, hE1⟩ := hq [] [] H (Same.refl H) .nil rfl hw
    exact ⟨S1, LL1, ρ1, q1, e1, R1, hw1, fun ds vs H' s r l h => ⟨(hq1 ds vs H' s r l h).2.1, (hq1 ds vs H' s r l h).2.2⟩, hE1⟩
  refine wpAny_Call_Name_kw (ld_glob I hg hm ?_ hdb)
  refine PySem.W.callWith_KW0 (h₀ := X.base) I.ok.mod.kin hk k1 ?_ (by rw [k2]; rfl)
  refine thn (hkw.run pos pins s σ H _ I h3) fun ws s2 ⟨zs, H2, I2, rz, l2, q2⟩ => ⟨I2.kIn, ?_⟩
  rw [k3, hnm]
  exact run_fnNS (E := WE W σ) (us := []) (vs := []) F hr hb (passAt tk σ) I2 .nil rz rfl (l2.trans hks) q2
end
end
end Uq

set_option maxHeartbeats 2000000
/-! Uq, part i2: enumerate over a tuple; a tuple backwards. -/
namespace Uq
open PySem PySem.Spec PyProof.Rows L2
/-- enumerate(v), v by what its iterator begins with -/
theorem enumNew {v : Value} {ob : Obj} {Hh : Heap → Prop} (B : Begins v ob Hh) :
    Meets (Builtin.«enumerate.__new__» ⟨[.type "enumerate", v], []⟩) (fun _ R z => Hh z.heap ∧
      R (.ok (.ret (.ref (z.heap.push ob).objs.size))) { z with heap := (z.heap.push ob).push { cls := .type "enumerate", data := .fields #[.none, .bool false, .ref z.heap.objs.size, rawInt 0, .none, .none] } }) :=
  .of_wp fun prog w A R z hz => by
    obtain ⟨hq, gq, dq, tq, oq⟩ := z; obtain ⟨hq1, hq2⟩ := hz
    have hsub := sub_enumerate
    have itv : ∀ {A' : Around} {E : Value → Shared → Prop} {Q : Value → Shared → Prop}, Q (.ref hq.objs.size) ⟨hq.push ob, gq, dq, tq, oq⟩ → wpAny (model prog w) A' (pyIter v) Q E ⟨hq, gq, dq, tq, oq⟩ := fun q => B.iter prog w _ _ ⟨hq, gq, dq, tq, oq⟩ _ hq1 q
    wp_walk using itv
    refine wpAny_stack_any fun _ => wpAny_pure ?_
    split
    · rename_i cc _ _ _ _ _
      cases (cc == Value.type "enumerate") <;> (wp_walk using itv; exact ⟨_, rfl, hq2⟩)
    · wp_walk using itv; exact ⟨_, rfl, hq2⟩
theorem call_enumT {prog : Program} {w : World} {A : Around} {E : Value → Shared → Prop} {z : Shared} {t : Addr} {its : Array Value} {Q : Value → Shared → Prop} (ht : z.heap.IsTuple t its)
    (h : ∀ h', IsEnum h' (z.heap.objs.size + 1) z.heap.objs.size 0 .none → h'.IsTupleIter z.heap.objs.size t 0 → h'.objs.size = z.heap.objs.size + 2 → (∀ b o, z.heap.get? b = some o → h'.get? b = some o) → Q (.ref (z.heap.objs.size + 1)) { z with heap := h' }) :
    wpAny (model prog w) A (call (.type "enumerate") [.ref t]) Q E z := by
  refine callType_new F.called_enumerate (by decide) (F.typeCall_enumerate_1 _) (F.newCall_enumerate_1 _) (fun ob2 => F.args_object_init_2 ob2 _) F.entry_enumerate_new (enumNew (begins_tuple t its)) ⟨ht, ?_⟩
  have s1 : (z.heap.push { cls := .type "tuple_iterator", data := .fields #[.ref t, .int 0 0] }).objs.size = z.heap.objs.size + 1 := Heap.size_push ..
  show _ ∧ _
  rw [s1]
  have en : IsEnum ((z.heap.push { cls := .type "tuple_iterator", data := .fields #[.ref t, .int 0 0] }).push { cls := .type "enumerate", data := .fields #[.none, .bool false, .ref z.heap.objs.size, rawInt 0, .none, .none] }) (z.heap.objs.size + 1) z.heap.objs.size 0 .none := by
    have g := Heap.get?_push_size (z.heap.push { cls := .type "tuple_iterator", data := .fields #[.ref t, .int 0 0] }) (o := { cls := .type "enumerate", data := .fields #[.none, .bool false, .ref z.heap.objs.size, rawInt 0, .none, .none] }) rfl
    rw [s1] at g; exact g
  exact ⟨⟨_, en, rfl⟩, h _ en ⟨_, Heap.get?_push_of_some _ (Heap.get?_push_size _ rfl), rfl, rfl⟩ (by rw [Heap.size_push, s1]) fun b o x => Heap.get?_push_of_some _ (Heap.get?_push_of_some _ x)⟩
/-- the tuple at a, each item in a new pair -/
def ItE (Kf : PySem.W.Frag) (a : Addr) : It :=
  ⟨fun i H => ∃ (xs : List V) (x : V), SqT Kf H a xs ∧ xs[i]? = some x, fun i H v H' => ∃ T x, v = .ref T ∧ H T = none ∧ H' = upd H T (.tup [.int (i : Nat), x]) ∧ ∀ xs, SqT Kf H a xs → xs[i]? = some x, fun i H => ∃ xs : List V, SqT Kf H a xs ∧ xs.length ≤ i⟩
theorem cls_ne {h : Heap} {a b : Addr} {o o2 : Obj} {m n : String} (ha : h.get? a = some o) (hb : h.get? b = some o2) (ca : o.cls = .type m) (cb : o2.cls = .type n) (d : m ≠ n) : a ≠ b := fun z => by
  rw [z, hb] at ha
  cases ha
  rw [ca] at cb
  exact d (Value.type.inj cb)
theorem turnE {prog : Program} {w : World} {Kf : PySem.W.Frag} {elts : List Expr} {kk : Nat} {tpos : Pos} (a e it : Addr) :
    Turn prog w Kf (.Tuple elts kk tpos) (ItE Kf a) [e, it] e (fun i h => (∃ old, IsEnum h e it ((i : Nat) : Int) old) ∧ h.IsTupleIter it a i ∧ e ≠ it) where
  mem := List.mem_cons_self
  obj := fun i h st b hb => by
    obtain ⟨⟨old, he⟩, ⟨o, ho, _, hd⟩, _⟩ := st
    rcases List.mem_cons.mp hb with z | z
    · rw [z]; exact ⟨_, he, fun v q => nomatch q⟩
    · rw [List.mem_singleton.mp z]; exact ⟨o, ho, fun v q => by rw [hd] at q; cases q⟩
  keep := fun i h h' st k => let ⟨⟨old, en⟩, ti, ne⟩ := st; ⟨⟨old, k e List.mem_cons_self _ en⟩, ti.at fun o q => k it (List.mem_cons_of_mem _ List.mem_cons_self) o q, ne⟩
  item := by
    intro X eP ew eK hc i pins s σ H E I hf st hg
    subst eP ew eK
    obtain ⟨⟨old, en⟩, ti, ne⟩ := st
    obtain ⟨xs, x, hq, hx⟩ := hg
    obtain ⟨its, rv, tp, _⟩ := I.tuple hq
    obtain ⟨u, hu, ru⟩ := rv.get hx
    have tp : s.heap.IsTuple a its.toArray := tp
    have elt : e < s.heap.objs.size := Heap.lt_size en
    have ilt : it < s.heap.objs.size := by obtain ⟨_, q, _⟩ := ti; exact Heap.lt_size q
    have nai : a ≠ it := by
      obtain ⟨_, g1, c1, _⟩ := id tp
      obtain ⟨_, g2, c2, _⟩ := id ti
      exact cls_ne g1 g2 c1 c2 (by decide)
    have nae : a ≠ e := by
      obtain ⟨_, g1, c1, _⟩ := id tp
      exact cls_ne g1 en c1 rfl (by decide)
    have hin : X.A.in1.handled = none := I.ok.hd hc
    have ilen : i < its.toArray.size := by
      have := (List.getElem?_eq_some_iff.mp hu).1
      simpa using this
    refine wpAny_pyNext_enum_itemD (Draws.tuple hin it a nai its.toArray) en ⟨ti, tp⟩ ilen ne (by simp [ne, Ne.symm nae]) fun u2 h1 tk eu eo st1 gT sz kp => ?_
    have eu : u2 = u := by
      have h2 : its.toArray[i]? = some u := by simpa using hu
      have eu : its.toArray[i]? = some u2 := eu
      rw [h2] at eu
      exact (Option.some.inj eu).symm
    subst eu
    refine ⟨_, rfl, wpAny_letOwnedTupleGo_enum (s := { s with heap := h1, toks := tk + 1 }) eo fun h2 e2 sb => ?_⟩
    have gT2 : h2.get? s.heap.objs.size = some { cls := .type "tuple", data := .seq #[.int i tk, u2] } := (sb.2 _ (Nat.ne_of_gt elt)).trans gT
    have nw : ObjOk X.prog X.w (upd H s.heap.objs.size (.tup [.int (i : Nat), x])) h2 s.heap.objs.size (.tup [.int (i : Nat), x]) :=
      ⟨by show 2 ≤ sizeLine; decide, [.int i tk, u2], .cons ⟨_, rfl⟩ (.cons ru .nil), ⟨_, gT2, rfl, _, rfl⟩⟩
    have I1 : Inv X pins σ (upd H s.heap.objs.size (.tup [.int (i : Nat), x])) { s with heap := h2, toks := tk + 1 } :=
      I.turnedNew (ch := [e, it]) (fun b ob hb q => (sb.2 b (fun z => hb (by simp [z]))).trans (kp b ob (fun z => hb (by simp [z])) (fun z => hb (by simp [z])) q)) hf (Nat.le_refl _) nw
    refine ⟨.ref s.heap.objs.size, _, I1, rfl, ⟨_, x, rfl, I.hok.fresh (Nat.le_refl _), rfl, fun ys hy => by rw [I.tuple_inj hy hq]; exact hx⟩, ⟨⟨u2, ?_⟩, st1.1.at fun o q => (sb.2 it (Ne.symm ne)).trans q, ne⟩, fun b hb => ?_⟩
    · have z : ((i + 1 : Nat) : Int) = (i : Int) + 1 := by omega
      rw [z]; exact e2
    · have hlt : b < s.heap.objs.size := by
        rcases List.mem_cons.mp hb with z | z
        · rw [z]; exact elt
        · rw [List.mem_singleton.mp z]; exact ilt
      rw [upd_ne (Nat.ne_of_lt hlt)]
      exact (hf b hb).1
  done := by
    intro X eP ew eK hc i pins s σ H E I hf st hg
    subst eP ew eK
    obtain ⟨⟨old, en⟩, ti, ne⟩ := st
    obtain ⟨xs, hq, hx⟩ := hg
    obtain ⟨its, rv, tp, _⟩ := I.tuple hq
    have tp : s.heap.IsTuple a its.toArray := tp
    have nai : a ≠ it := by
      obtain ⟨_, g1, c1, _⟩ := id tp
      obtain ⟨_, g2, c2, _⟩ := id ti
      exact cls_ne g1 g2 c1 c2 (by decide)
    have hin : X.A.in1.handled = none := I.ok.hd hc
    obtain ⟨y0, y1, y2, y3, y4, y5⟩ := hf it (List.mem_cons_of_mem _ List.mem_cons_self)
    have hl := rv.length
    have no : its.toArray[i]? = none := by
      rw [Array.getElem?_eq_none_iff, List.size_toArray]
      omega
    have D0 : Draws X.prog X.w X.A.in1 it [it, a] i (fun _ _ => False) (fun j h => j = i ∧ h.IsTupleIter it a i ∧ h.IsTuple a its.toArray) :=
      ⟨fun _ _ st => let ⟨_, ⟨o, ho, _⟩, _⟩ := st; ⟨o, ho⟩, fun _ _ _ st k => ⟨st.1, st.2.1.at fun o q => k it List.mem_cons_self o q, st.2.2.at fun o q => k a (List.mem_cons_of_mem _ List.mem_cons_self) o q⟩,
        fun j z Q' E' hj st _ => absurd st.1 (Nat.ne_of_lt hj), fun z Q' E' st hE => wpAny_nextOf_tuple_end hin st.2.1 st.2.2 no hE⟩
    exact wpAny_pyNext_enum_endD D0 en ⟨rfl, ti, tp⟩ fun h1 eb => ⟨rfl, I.turned (t' := s.toks) (fun b o hb q => eb b o hb q) y0 y1 y3 y4 y5⟩
  self := fun A i s Q E st h => let ⟨⟨_, en⟩, _⟩ := st; wpAny_pyIter_enum en h
/-- enumerate over a list or a tuple -/
def iEn (Kf : PySem.W.Frag) (ta : TA) : TI := fun σ H R => ta σ H fun vs H1 => (∃ a xs, vs = [.ref a] ∧ SqL Kf H1 a xs ∧ R (Ite Kf a) H1) ∨ ∃ a xs, vs = [.ref a] ∧ SqT Kf H1 a xs ∧ R (ItE Kf a) H1
theorem pi_en {X : Cx} {e : Expr} {ta : TA} {p pos tpos : Pos} {elts : List Expr} {kk : Nat} (hg : Gl X "enumerate") (hm : X.mg "enumerate" = none) (ha : PA X [e] ta) (hs : starEach [e] X.env = [(false, eval e X.env)]) : PI X (.Tuple elts kk tpos) (.Call (.Name "enumerate" p) [e] [] pos) (iEn X.K ta) := by
  refine ⟨fun pins s σ H R I h => ?_⟩
  refine Call_ (ld_blt I hg hm boot_enumerate (PyProof.Rows.callWith_type1 (thn (ha.run pos pins s σ H _ I h) fun us s1 ⟨vs, H1, I1, r1, q1⟩ => ?_) hs rfl))
  have two : ∀ {b : Addr}, b ∈ [s1.heap.objs.size + 1, s1.heap.objs.size] → s1.heap.objs.size ≤ b := fun {b} hb => by
    rcases List.mem_cons.mp hb with z | z
    · rw [z]; exact Nat.le_succ _
    · rw [List.mem_singleton.mp z]; exact Nat.le_refl _
  rcases q1 with ⟨a, xs, ex, hq, q⟩ | ⟨a, xs, ex, hq, q⟩
  · subst ex
    obtain ⟨u, rfl, ru⟩ := vals1 r1
    cases (show u = Value.ref a from ru)
    obtain ⟨its, rv, lp, _⟩ := I1.list hq
    refine call_enumerate_list lp.isList fun h1 en li sz kp => wpAny_pyIter_enum en ?_
    have I2 : Inv X pins σ H1 { s1 with heap := h1 } := I1.kept (t' := s1.toks) kp
    exact ⟨s1.heap.objs.size + 1, [s1.heap.objs.size + 1, s1.heap.objs.size], _, _, H1, rfl, I2, turn_enum a (s1.heap.objs.size + 1) s1.heap.objs.size, ⟨⟨.none, en⟩, li, Nat.succ_ne_self _⟩, fun b hb => I1.fpOk (two hb) (I1.hok.fresh (two hb)), q⟩
  · subst ex
    obtain ⟨u, rfl, ru⟩ := vals1 r1
    cases (show u = Value.ref a from ru)
    obtain ⟨its, rv, tp, _⟩ := I1.tuple hq
    refine call_enumT (show s1.heap.IsTuple a its.toArray from tp) fun h1 en ti sz kp => wpAny_pyIter_enum en ?_
    have I2 : Inv X pins σ H1 { s1 with heap := h1 } := I1.kept (t' := s1.toks) kp
    exact ⟨s1.heap.objs.size + 1, [s1.heap.objs.size + 1, s1.heap.objs.size], _, _, H1, rfl, I2, turnE a (s1.heap.objs.size + 1) s1.heap.objs.size, ⟨⟨.none, en⟩, ti, Nat.succ_ne_self _⟩, fun b hb => I1.fpOk (two hb) (I1.hok.fresh (two hb)), q⟩
end Uq

set_option maxHeartbeats 2000000
/-! Uq, part i3: a tuple backwards; list(range). -/
namespace Uq
open PySem PySem.Spec PyProof.Rows L2
theorem revIx {α : Type} (xs : List α) : ((List.range xs.length).filterMap fun (m : Nat) => xs.toArray[(((xs.length : Int) - 1) + (m : Int) * (-1)).toNat]?) = xs.reverse := by
  have e : (List.range xs.length).map (fun (m : Nat) => xs.toArray[(((xs.length : Int) - 1) + (m : Int) * (-1)).toNat]?) = xs.reverse.map some := by
    apply List.ext_getElem?
    intro m
    by_cases h : m < xs.length
    · rw [List.getElem?_map, List.getElem?_range h, List.getElem?_map, List.getElem?_reverse h]
      have z : (((xs.length : Int) - 1) + (m : Int) * (-1)).toNat = xs.length - 1 - m := by omega
      simp only [Option.map_some, z, List.getElem?_toArray]
      rw [List.getElem?_eq_getElem (by omega)]
      rfl
    · rw [List.getElem?_eq_none (by simp; omega), List.getElem?_eq_none (by simp; omega)]
  have f : ∀ {β : Type} (l : List β) (g : β → Option α), l.filterMap g = (l.map g).filterMap id := fun l g => by rw [List.filterMap_map]; rfl
  rw [f, e, List.filterMap_map]
  simp
theorem sliceBack {prog : Program} {w : World} {A : Around} {E : Value → Shared → Prop} {s : Shared} {sl : Addr} {vs : Value} {n : Nat} {Q : Int × Int × Nat → Shared → Prop} (hs : s.heap.IsSliceOf sl .none .none vs) (ps : IsPart vs (some (-1)))
    (h : Q ((n : Int) - 1, -1, n) s) : wpAny (model prog w) A (Builtin.Slice.sliceApplied (.ref sl) (pure (n : Int))) Q E s := by
  obtain ⟨os, hos, hcs, hds⟩ := id hs
  unfold Builtin.Slice.sliceApplied Builtin.Slice.sliceFields
  refine wpAny_bind (wpAny_bind (wpAny_field hos hds (x := .none) rfl (wpAny_bind (wpAny_field hos hds (x := .none) rfl (wpAny_bind (wpAny_field hos hds (x := vs) rfl (wpAny_pure ?_)))))))
  cases ps with
  | int i t =>
    refine wpAny_bind (slicePart_int ?_)
    show wpAny _ _ (if ((-1 : Int) == 0) = true then _ else _) _ _ s
    rw [if_neg (by decide)]
    refine wpAny_bind (slicePart_none (wpAny_bind (slicePart_none (wpAny_bind (wpAny_pure ?_)))))
    show wpAny _ _ (match Builtin.Slice.sliceAdjust none none (-1) (n : Int) with | (lo, hi) => pure (lo, (-1 : Int), Builtin.Slice.slicePlaces lo hi (-1))) _ _ s
    have ea : Builtin.Slice.sliceAdjust none none (-1) (n : Int) = ((n : Int) - 1, -1) := by
      unfold Builtin.Slice.sliceAdjust
      rfl
    have ep : Builtin.Slice.slicePlaces ((n : Int) - 1) (-1) (-1) = n := by
      unfold Builtin.Slice.slicePlaces
      have h1 : ¬ ((-1 : Int) > 0) := by decide
      simp only [h1, if_false]
      split <;> first | omega | (simp <;> omega)
    rw [ea]
    show wpAny _ _ (pure ((n : Int) - 1, (-1 : Int), Builtin.Slice.slicePlaces ((n : Int) - 1) (-1) (-1))) _ _ s
    rw [ep]
    exact wpAny_pure h
theorem getItem_tupBack {prog : Program} {w : World} {A : Around} {E : Value → Shared → Prop} {s : Shared} {t sl : Addr} {items : List Value} {vs : Value} {Q : Value → Shared → Prop} (ht : IsTup s.heap t items.toArray) (hs : s.heap.IsSliceOf sl .none .none vs) (ps : IsPart vs (some (-1)))
    (h : Q (.ref s.heap.objs.size) { s with heap := s.heap.push { cls := .type "tuple", data := .seq items.reverse.toArray } }) (hz : items.length ≤ sizeLine) : wpAny (model prog w) A (getItem (.ref t) (.ref sl)) Q E s := by
  have hfit : sizeOk (.seq items.reverse.toArray) := by
    show items.reverse.toArray.size ≤ sizeLine
    rw [List.size_toArray, List.length_reverse]; exact hz
  obtain ⟨os, hos, hcs, hds⟩ := id hs
  have hTs : s.TypeIs (.ref sl) "slice" := ⟨os, hos, hcs⟩
  unfold getItem
  try with_reducible refine wpAny_holding ?_
  first | refine wpAny_bind (wpAny_pure ?_) | skip
  refine wpAny_bind (wpAny_sequenceKey ht.typeIs (by decide) ?_)
  refine wpAny_bind (wpAny_callSpecial?_slot (name := Str.ofString "__getitem__") ht.typeIs PyProof.Rows.slot_tuple_getitem (wpAny_call_entry PyProof.Rows.slot_tuple_getitem ht.typeIs entry_tuple_getitem ?_ (args_tuple_getitem _ _)))
  show wpAny _ _ (Builtin.Tuple.tupleItemsOf (.ref t) >>= _) _ _ s
  refine wpAny_bind (tupleItemsOf_ ht (wpAny_bind (wpAny_typeOf hTs ?_)))
  rw [if_pos (by decide)]
  have esz : items.toArray.size = items.length := by simp
  refine wpAny_bind (m := Builtin.Slice.sliceApplied _ _) ?_
  rw [esz]
  refine sliceBack hs ps ?_
  have hno : ¬ ((((items.length : Int) - 1) == 0 && (-1 : Int) == 1 && items.length == items.toArray.size) = true) := by
    intro q
    rw [Bool.and_eq_true, Bool.and_eq_true] at q
    exact absurd (eq_of_beq q.1.2) (by decide)
  show wpAny _ _ (if (((items.length : Int) - 1) == 0 && (-1 : Int) == 1 && items.length == items.toArray.size) = true then _ else _) _ _ s
  rw [if_neg hno, revIx]
  first
    | exact wpAny_bind (m := Builtin.Tuple.tupleExact _) (wpAny_newObj_type (wpAny_pure ⟨_, rfl, wpAny_pure h⟩) hfit)
    | exact wpAny_bind (m := Builtin.Tuple.tupleExact _) (wpAny_newObj_type (wpAny_bind (wpAny_pure (wpAny_pure ⟨_, rfl, wpAny_pure h⟩))) hfit)
    | exact wpAny_bind (wpAny_bind (m := Builtin.Tuple.tupleExact _) (wpAny_newObj_type (wpAny_pure (wpAny_pure ⟨_, rfl, wpAny_pure h⟩)) hfit))
    | exact wpAny_bind (wpAny_bind (m := Builtin.Tuple.tupleExact _) (wpAny_newObj_type (wpAny_pure ⟨_, rfl, wpAny_pure h⟩) hfit))
/-- xs[::-1], a list or a tuple -/
def tBack (Kf : PySem.W.Frag) (te : TE) : TE := fun σ H Q => te σ H fun x H1 => (∃ a xs, x = .ref a ∧ SqL Kf H1 a xs ∧ ∀ p, H1 p = none → Q (.ref p) (upd H1 p (.lst xs.reverse))) ∨ ∃ a xs, x = .ref a ∧ SqT Kf H1 a xs ∧ ∀ p, H1 p = none → Q (.ref p) (upd H1 p (.tup xs.reverse))
theorem pe_back {X : Cx} {e : Expr} {te : TE} {k : Nat} {p1 p2 p3 pos : Pos} (he : PE X e te) : PE X (.Subscript e (.Slice none none (some (.UnaryOp .USub (.Constant (.int 1) k p1) p2)) p3) pos) (tBack X.K te) := by
  refine ⟨fun pins s σ H Q I h => Subscript_ (thn (he.run pins s σ H _ I h) fun v s1 ⟨x, H1, I1, r1, q1⟩ => ?_)⟩
  have minus : PO X (some (.UnaryOp .USub (.Constant (.int 1) k p1) p2)) (tPart (tUn (rU fun i => .int (-i)) (tC (.int 1)))) := po_some (pe_un un_neg pe_int)
  refine wpAny_Slice (thn (po_none.run pins s1 σ H1 (fun o G => o = none ∧ G = H1) I1 ⟨rfl, rfl⟩) fun vl s2 ⟨o2, G2, I2, pl, eo2, eG2⟩ => ?_)
  subst eo2 eG2
  refine thn (po_none.run pins s2 σ G2 (fun o G => o = none ∧ G = G2) I2 ⟨rfl, rfl⟩) fun vu s3 ⟨o3, G3, I3, pu, eo3, eG3⟩ => ?_
  subst eo3 eG3
  refine thn (minus.run pins s3 σ G3 (fun o G => o = some (-1) ∧ G = G3) I3 ⟨1, rfl, -1, rfl, rfl, rfl⟩) fun vs s4 ⟨o4, G4, I4, ps, eo4, eG4⟩ => ?_
  subst eo4 eG4
  have I5 : Inv X pins σ G4 { s4 with heap := s4.heap.push { cls := .type "slice", data := .fields #[vl, vu, vs] } } := I4.kept (t' := s4.toks) fun b ob q => Heap.get?_push_of_some _ q
  have fresh := I5.hok.fresh (Nat.le_refl _)
  have none_ : ∀ {u : Value}, IsPart u none → u = .none := fun {u} p => by cases p; rfl
  rcases q1 with ⟨a, xs, rfl, hx, q⟩ | ⟨a, xs, rfl, hx, q⟩
  · cases (show v = Value.ref a from r1)
    obtain ⟨its, r, ht, hz⟩ := I5.list hx
    have hlen := r.length
    show wpAny (model X.prog X.w) X.A (subscriptTail e (.Slice none none (some (.UnaryOp .USub (.Constant (.int 1) k p1) p2)) p3) (.ref a) (.ref s4.heap.objs.size)) (EP X pins σ Q) X.xe _
    refine tail_any (ops := [.ref a, .ref s4.heap.objs.size]) ht.isList.typeIs (PySem.slot_list_getitem.lookup) ?_ (by with_unfolding_all rfl)
    refine wpAny_getItem_list_slice ht.isList (Heap.IsSliceOf.new _ vl vu vs) pl pu ps (by decide) ?_ (by rw [List.size_toArray]; omega)
    rw [PySem.W.krv_pick]
    exact ⟨.ref _, _, I5.laid (t' := s4.toks) (o := .lst xs.reverse) (fun b ob q => Heap.get?_push_of_some _ q) (Nat.le_refl _) ⟨by rw [List.length_reverse]; exact hz, _, 0, r.reverse, Heap.get?_push_size _ rfl⟩, rfl, q _ fresh⟩
  · cases (show v = Value.ref a from r1)
    obtain ⟨its, r, ht, hz⟩ := I5.tuple hx
    have hlen := r.length
    have el := none_ pl
    have eu := none_ pu
    subst el eu
    show wpAny (model X.prog X.w) X.A (subscriptTail e (.Slice none none (some (.UnaryOp .USub (.Constant (.int 1) k p1) p2)) p3) (.ref a) (.ref s4.heap.objs.size)) (EP X pins σ Q) X.xe _
    refine tail_any (ops := [.ref a, .ref s4.heap.objs.size]) ht.typeIs PyProof.Rows.slot_tuple_getitem.lookup ?_ (by with_unfolding_all rfl)
    refine getItem_tupBack ht (Heap.IsSliceOf.new _ .none .none vs) ps ?_ (by omega)
    exact ⟨.ref _, _, I5.laid (t' := s4.toks) (o := .tup xs.reverse) (fun b ob q => Heap.get?_push_of_some _ q) (Nat.le_refl _) ⟨by rw [List.length_reverse]; exact hz, _, r.reverse, ⟨_, Heap.get?_push_size _ rfl, rfl, 0, rfl⟩⟩, rfl, q _ fresh⟩
section
variable {X : Cx} {P : Pg} {cl : Cl} {W : WX} {a' b' : Expr} {a b : C} {pos pos2 p q : Pos}
theorem e_back {k : Nat} {p1 p2 p3 : Pos} (ha : PE X a' (tE X.K P cl W a)) : PE X (.Subscript a' (.Slice none none (some (.UnaryOp .USub (.Constant (.int 1) k p1) p2)) p3) pos) (tE X.K P cl W (.rev a)) := by
  refine peI (pe_back ha) fun σ H Q ⟨S0, LL, ρ, q, e, R, hw, hq, he⟩ => ⟨S0, LL, ρ, _, e, R, hw, fun d v H1 s1 r1 h1 => ?_, he⟩
  cases d <;> first | exact h1.elim | skip
  · obtain ⟨l, xs, rfl, sl, hl, r⟩ := r1.1.lst_
    exact .inl ⟨l, xs, rfl, SqL.of hl, fun p hp => hq _ _ _ (sq_ s1 (same_upd hp)) (Res.from s1 (new_lst r.rev hp (R.nmF s1 p hp))) h1⟩
  · obtain ⟨l, xs, rfl, hl, r⟩ := r1.1.tup_
    exact .inr ⟨l, xs, rfl, hl, fun p hp => hq _ _ _ (sq_ s1 (same_upd hp)) (res_of (new_tup r.rev hp) fun _ e => by cases e) h1⟩
theorem upto_rg : ∀ (n : Nat) (lo : Int), upto lo n = (List.range n).map fun i => PyData.int (lo + (i : Nat))
  | 0, lo => rfl
  | n + 1, lo => by
    rw [List.range_succ_eq_map, List.map_cons, List.map_map]
    show PyData.int lo :: upto (lo + 1) n = _
    rw [upto_rg n (lo + 1)]
    congr 1
    · simp
    · apply List.map_congr_left
      intro i _
      simp only [Function.comp]
      congr 1
      omega
theorem rg_rps {K : PySem.W.Frag} {S : Addr → Prop} {H : Hp} (i j : Int) : Rps K S H (upto i (j - i).toNat) (rgV i j) := by
  have e : ∀ l : List Nat, Rps K S H (l.map fun k => PyData.int (i + (k : Nat))) (l.map fun k => V.int (i + (k : Nat))) := fun l => by
    induction l with
    | nil => exact .nil
    | cons x l ih => exact .cons (by simp only [Rp]) ih
  rw [upto_rg]
  exact e _
/-- list(range(a, b)) -/
theorem e_lrng2 (hc : X.calm = true) (hg : Gl X "list") (hm : X.mg "list" = none) (hg2 : Gl X "range") (hm2 : X.mg "range" = none) (ha : PE X a' (tE X.K P cl W a)) (hb : PE X b' (tE X.K P cl W b)) (na : okE a' = true) (nb : okE b' = true) :
    PE X (.Call (.Name "list" p) [.Call (.Name "range" q) [a', b'] [] pos2] [] pos) (tE X.K P cl W (.bi .lrng2 [a, b])) := by
  refine peI (pe_listRg hc hg hm (prg_2 hg2 hm2 ha hb (okE_star na) (okE_star nb) (by rw [okE_star nb]; rfl)) rfl) fun σ H Q ⟨S0, LL, ρ, q, e, R, hw, hq, he⟩ => ?_
  refine ⟨S0, LL, ρ, _, e, R, hw, fun d1 v1 H1 s1 r1 h1 => ⟨S0, LL, ρ, _, e, R.same s1, h1, fun d2 v2 H2 s2 r2 h2 => ?_, fun k fs cv dx H' s2 x h => he k fs cv dx H' (sq_ s1 s2) x h⟩, he⟩
  have h2 : biR .lrng2 [d1, d2] q := h2
  cases d1 <;> cases d2 <;> first | exact h2.elim | skip
  obtain ⟨⟨h3, h4, h5, h6, h7⟩, h8⟩ := h2
  refine ⟨_, _, r1.1.int_, r2.1.int_, ⟨h3, h4, h5, h6, h7⟩, fun p hp => ?_⟩
  exact hq _ _ _ (sq_ (sq_ s1 s2) (same_upd hp)) (Res.from (sq_ s1 s2) (new_lst (rg_rps _ _) hp (R.nmF (sq_ s1 s2) p hp))) h8
end
end Uq

set_option maxHeartbeats 2000000
/-! Uq, part i4: sorted(set(tuples of ints)). -/
namespace Uq
open PySem PySem.Spec PyProof.Rows L2
theorem rows_of {K : PySem.W.Frag} {S : Addr → Prop} {H : Hp} : ∀ {rows : List (List Int)} {xs : List V}, Rps K S H (rows.map rowD) xs → ∃ ks : List (Addr × List Int), xs = ks.map (fun p => V.ref p.1) ∧ rows = ks.map (·.2) ∧ ∀ p ∈ ks, SqT K H p.1 (p.2.map V.int)
  | [], xs, h => by
    simp only [List.map_nil, Rps] at h
    subst h
    exact ⟨[], rfl, rfl, fun _ h => nomatch h⟩
  | r :: rows, xs, h => by
    simp only [List.map_cons, Rps] at h
    obtain ⟨v, t, rfl, h1, h2⟩ := h
    obtain ⟨ks, rfl, rfl, hk⟩ := rows_of h2
    obtain ⟨p, ys, rfl, hp, hr⟩ := h1.tup_
    rw [hr.ints_] at hp
    refine ⟨(p, r) :: ks, rfl, rfl, fun q hq => ?_⟩
    rcases List.mem_cons.mp hq with rfl | hq
    · exact hp
    · exact hk q hq
theorem rows_back {K : PySem.W.Frag} {S : Addr → Prop} {H : Hp} : ∀ {ks : List (Addr × List Int)}, (∀ p ∈ ks, SqT K H p.1 (p.2.map V.int)) → Rps K S H ((ks.map (·.2)).map rowD) (ks.map fun p => V.ref p.1)
  | [], _ => .nil
  | p :: ks, h => by
    refine .cons ?_ (rows_back fun q hq => h q (List.mem_cons_of_mem _ hq))
    unfold rowD
    simp only [Rp]
    exact ⟨p.1, _, rfl, h p List.mem_cons_self, Rps.ints _⟩
section
variable {X : Cx} {P : Pg} {cl : Cl} {W : WX} {a' : Expr} {a : C} {pos pos2 p q : Pos}
theorem sset_boot : bootBuiltins "set" = some (.type "set") := by decide +kernel
theorem sorted_boot : bootBuiltins "sorted" = some (.builtin "sorted") := by decide +kernel
end
end Uq

set_option maxHeartbeats 1000000
/-! Uq, part i5: defs with a star: the tuple is made as the call binds. -/
namespace Uq
open PySem PySem.Spec PyProof.Rows L2
/-- what binding comes to: the names' values, the state behind it -/
def BindsV (s : Shared) (fd : FuncData) (args : Args) (binds : List (Str × Value)) (s1 : Shared) : Prop :=
  ∀ (M : Model) (A : Around) (E : Value → Shared → Prop) (Q : List (Str × Value) → Shared → Prop), Q binds s1 → wpAny M A (bindArgs fd args) Q E s
def tupSt (s : Shared) (us : List Value) : Shared := { s with heap := s.heap.push { cls := .type "tuple", data := .seq us.toArray } }
def BndV (K : PySem.W.Frag) (fd : FuncData) (ps : List Str) : Prop := ∀ (s : Shared) (us : List Value), us.length ≤ 1000 → BindsV s fd ⟨us, []⟩ (ps.zip [.ref s.heap.objs.size]) (tupSt s us)
structure FnV (P : Program) (w : World) (K : PySem.W.Frag) (mg : Str → Option Value) (base : Heap) (CX : CXT) (k : Nat) (f : Addr) (fd : FuncData) (ps : List Str) (sp : Sp) : Prop where
  len : ∀ vs H Q E, sp vs H Q E → vs.length = ps.length
  run : ∀ (A : Around) (outer : List PySem.Env) (s s1 : Shared) (H : Hp) (args : Args) (us : List Value) (vs : List V) (Q : VK) (E : XK), Room k A → K.In s.heap → Env0 P w K mg base A outer s1 H → BindsV s fd args (ps.zip us) s1 → Vals vs us → sp vs H Q E →
    codeAny (model P w) A (.call (.ref f) args) (CR CX outer P w H s1 Q E) s
theorem fn_ofV {CX : CXT} {P : Program} {w : World} {K : PySem.W.Frag} {mg : Str → Option Value} {base : Heap} {k : Nat} {f : Addr} {name qual : Str} {params : Arguments} {body : List Stmt} {scope : Scope} {dV kV doc pm cdv ct oc : Value} {an od : Option Addr}
    {osl : Array (Option Value)} {N ps : List Str} {sp : Sp} (lk : K.lookup f = some ⟨oc, od, .func (PySem.W.fnOf name qual params body scope dV kV doc pm an cdv ct), osl⟩) (hcd : PySem.W.codeIn K cdv qual = true) (S : FnScope N ps scope)
    (len : ∀ vs H Q E, sp vs H Q E → vs.length = ps.length)
    (hbody : ∀ (A : Around) (outer : List PySem.Env) (s : Shared) (H : Hp) (vs : List V) (Q : VK) (E : XK), Room k (A.deeper (envOfC qual scope s.heap.objs.size f cdv)) → sp vs H Q E →
      ∃ t, PSs (cxOf CX P w K mg base N qual scope f cdv A outer s H E) body t ∧ t { nx := fun _ H' => Q .non H', rt := Q } (L2.start N vs) H) :
    FnV P w K mg base CX (k + 1) f (PySem.W.fnOf name qual params body scope dV kV doc pm an cdv ct) ps sp := by
  refine ⟨len, fun A outer s0 s H args us vs Q E hr KX e0 hb r hsp => ?_⟩
  have hl := len _ _ _ _ hsp
  have lim : s.heap.NoLimit := e0.mod.nolimit.keeps fun b o e => (e0.bs b o e).1
  have hkind : ∀ y ∈ ps.zip us, scope.names.lookup y.1 = some .local ∨ (scope.names.lookup y.1 = some .cell ∧ ((cellsFrom (s.heap.objs.size + 1) scope.names []).lookup y.1).isSome = true) := fun ⟨n, v⟩ hy => by
    rcases S.par n (List.of_mem_zip hy).1 with q | q
    · exact .inl q
    · exact .inr ⟨q, PySem.W.cellsFrom_some _ _ _ (.inl q)⟩
  refine codeAny_call_function hr.depth (KX _ _ lk) rfl S.co S.gen rfl (PySem.W.codeRec_of KX hcd) (hb _ _ _ _ ?_)
  refine wpAny_newFunctionEnv_cells S.kind hkind fun env he s1 x => ?_
  subst he
  refine ⟨lim.keeps x.toInCall.keep, codeAny_func ?_⟩
  obtain ⟨t, ht, hq⟩ := hbody A outer s H vs Q E (hr.deeper _) hsp
  have I : Inv (cxOf CX P w K mg base N qual scope f cdv A outer s H E) [] (L2.start N vs) H s1 := inv_start S hr.hd e0 hl r x
  refine wpAny_mono (ht.run [] s1 (L2.start N vs) H _ I hq) (fun fl s' hs => ?_) fun e s' hs => hs
  have fin : ∀ {σ' : L2.St} {H' : Hp} {v : V} {u : Value}, Inv (cxOf CX P w K mg base N qual scope f cdv A outer s H E) [] σ' H' s' → RelV v u → Q v H' → CE outer P w H s Q u s' :=
    fun {σ' H' v u} J rv q => ⟨v, H', J.os, J.bare, J.base, J.hok, rv, q⟩
  cases fl with
  | ret u =>
    obtain ⟨v, σ', H', J, rv, q⟩ := hs
    exact fin J rv q
  | next =>
    obtain ⟨σ', H', J, q⟩ := hs
    exact fin (v := V.non) (u := Value.none) J rfl q
  | brk =>
    obtain ⟨_, _, _, q⟩ := hs
    exact False.elim q
  | cont =>
    obtain ⟨_, _, _, q⟩ := hs
    exact False.elim q
theorem FunD.okV {P : Program} {w : World} {K : PySem.W.Frag} {mg : Str → Option Value} {base : Heap} {x qual : Str} {params : Arguments} {body : List Stmt} {scope : Scope} {dvs : List V} {kws : List (Str × V)} {f : Addr} {fd : FuncData}
    {CX : CXT} {N ps : List Str} {k : Nat} {sp : Sp} (F : FunD K x qual params body scope dvs kws f fd) (S : FnScope N ps scope) (len : ∀ vs H Q E, sp vs H Q E → vs.length = ps.length)
    (hbody : ∀ (cdv : Value) (A : Around) (outer : List PySem.Env) (s : Shared) (H : Hp) (vs : List V) (Q : VK) (E : XK), Room k (A.deeper (envOfC qual scope s.heap.objs.size f cdv)) → sp vs H Q E →
      ∃ t, PSs (cxOf CX P w K mg base N qual scope f cdv A outer s H E) body t ∧ t { nx := fun _ H' => Q .non H', rt := Q } (L2.start N vs) H) : FnV P w K mg base CX (k + 1) f fd ps sp := by
  obtain ⟨oc, od, dV, kV, doc, pm, an, cdv, ct, osl, rfl, lk, hcd, _, _⟩ := F.ex
  exact fn_ofV lk hcd S len fun A outer s H vs Q E hr hsp => hbody cdv A outer s H vs Q E hr hsp
/-- .. bound -/
theorem FunD.bndV {K : PySem.W.Frag} {x qual : Str} {params : Arguments} {body : List Stmt} {scope : Scope} {kws : List (Str × V)} {f : Addr} {fd : FuncData} {ps : List Str} (F : FunD K x qual params body scope [] kws f fd)
    (h : ∀ (kV doc pm : Value) (an : Option Addr) (cdv ct : Value) (us : List Value), bindArgs (PySem.W.fnOf x qual params body scope .none kV doc pm an cdv ct) ⟨us, []⟩ = (do let t ← newTuple us; pure (ps.zip [t]))) : BndV K fd ps := by
  obtain ⟨oc, od, dV, kV, doc, pm, an, cdv, ct, osl, rfl, lk, hcd, hD, hK⟩ := F.ex
  rcases hD with ⟨_, rfl⟩ | ⟨e, _⟩
  · intro s us hl M A E Q hq
    rw [h kV doc pm an cdv ct us]
    exact wpAny_bind (wpAny_newTuple (wpAny_pure hq) (by exact Nat.le_trans hl (by decide)))
  · exact absurd rfl e
section
variable {X : Cx} {P : Pg} {cl : Cl} {W : WX} {a' : Expr} {pos : Pos} {k : Nat} {fa : Addr} {fd : FuncData} {ps : List Str} {sp : Sp} {x : Str} {p : Pos} {f : Nat} {cs : List C} {es : List Expr}
theorem run_fnV {E : XK} {pins : List (Addr × Obj)} {σ : L2.St} {H : Hp} {s : Shared} {Q : VK} {us : List Value} {vs : List V} (F : FnV X.prog X.w X.K X.mg X.base (L2.CX X.prog X.w) k fa fd ps sp) (hr : Room k X.A) (hb : BndV X.K fd ps) (hx : PassesAt (L2.CX X.prog X.w) X σ E)
    (I : Inv X pins σ H s) (r : Vals vs us) (hl : vs.length ≤ 1000) (h : ∀ q, H q = none → sp [.ref q] (upd H q (.tup vs)) Q E) : wpAny (model X.prog X.w) X.A (call (.ref fa) us) (EP X pins σ Q) X.xe s := by
  have hf : H s.heap.objs.size = none := I.hok.fresh (Nat.le_refl _)
  have hz : vs.length ≤ sizeLine := Nat.le_trans hl (by decide)
  have I1 : Inv X pins σ (upd H s.heap.objs.size (.tup vs)) (tupSt s us) := I.laid (t' := s.toks) (fun b u e => Heap.get?_push_of_some _ e) (Nat.le_refl _) ⟨hz, us, r, ⟨_, Heap.get?_push_size _ rfl, rfl, _, rfl⟩⟩
  refine wpAny_call (codeAny_mono (F.run X.A X.stack s (tupSt s us) _ ⟨us, []⟩ [.ref s.heap.objs.size] [.ref s.heap.objs.size] Q E hr I.kIn I1.env0 (hb s us (by rw [← r.length]; exact hl)) (.cons rfl .nil) (h _ hf)) fun r s' hq => ?_)
  cases r with
  | error e => exact hx pins _ _ e s' I1 hq
  | ok fl =>
    cases fl with
    | ret u => exact I1.after hq
    | next => exact False.elim hq
    | brk => exact False.elim hq
    | cont => exact False.elim hq
theorem callv_sp {S0 : Addr → Prop} {LL : Ow} {ρ : Env} {σ : L2.St} {H H1 : Hp} {Q : VK} {q : QD} {e : Ex} {ds : List D} {vs : List V} (R : Rel X.K P S0 LL ρ σ H) (s1 : Same H H1) (r1 : Rps X.K (NmS S0 LL (nmsL cs)) H1 ds vs) (h1 : cl.call f [.tuple ds] q e)
    (hq : ∀ d v H', Same H H' → Res X.K (NmS S0 LL (nms (.callv f cs))) H H' (fresh (.callv f cs)) d v → q d → Q v H') (hE : ∀ k fs cv dx H', Same H H' → XRp X.K P H' k fs cv dx → e k fs → W cv dx σ H') :
    ∀ p, H1 p = none → spF X.K P 1 (cl.call f) [.ref p] (upd H1 p (.tup vs)) Q (WE W σ) := fun p hp =>
  ⟨[.tuple ds], NmS S0 LL (nmsL cs), q, e, .one (new_tup r1 hp), fun a ha => R.nmF s1 a (same_none (same_upd hp) ha), h1, rfl, fun d v H' s r hd => hq d v H' (sq_ (sq_ s1 (same_upd hp)) s) (.fls r) hd, fun k fs cv dx H' s x h => hE k fs cv dx H' (sq_ (sq_ s1 (same_upd hp)) s) x h⟩
theorem e_callv (F : FnV X.prog X.w X.K X.mg X.base (L2.CX X.prog X.w) k fa fd ps (spF X.K P ps.length (cl.call f))) (tk : Takes X W) (hr : Room k X.A) (hg : Gl X x) (hm : X.mg x = some (.ref fa)) (hk : PySem.W.keepIn X.K (.ref fa) = true) (hb : BndV X.K fd ps) (h1p : ps.length = 1)
    (hl : cs.length ≤ 1000) (ha : PA X (a' :: es) (tEsL X.K P cl W cs)) (hdb : (x == ("__debug__" : Str)) = false) (he : starEach (a' :: es) X.env = (false, eval a' X.env) :: starEach es X.env) (hpl : (backTo pos (starEach es X.env)).any (·.1) = false) :
    PE X (.Call (.Name x p) (a' :: es) [] pos) (tE X.K P cl W (.callv f cs)) := by
  refine ⟨fun pins s σ H Q I ⟨S0, LL, ρ, q, e, R, hw, hq, hE⟩ => ?_⟩
  refine wpAny_Call_Name_kw (ld_glob I hg hm ?_ hdb)
  refine PySem.W.callWith_K (h₀ := X.base) I.ok.mod.kin hk (thn (ha.run pos pins s σ H _ I ⟨S0, LL, ρ, _, e, R, hw, fun ds vs H1 s1 r1 l1 h1 => (show vs.length ≤ 1000 ∧ ∀ p, H1 p = none → spF X.K P ps.length (cl.call f) [.ref p] (upd H1 p (.tup vs)) Q (WE W σ) from ⟨by rw [← r1.length, l1]; exact hl, by rw [h1p]; exact callv_sp R s1 r1 h1 hq hE⟩), hE⟩) fun us s1 ⟨vs, H1, I1, r, q⟩ => ⟨I1.kIn, ?_⟩) he hpl
  exact run_fnV (E := WE W σ) F hr hb (passAt tk σ) I1 r q.1 q.2
theorem e_callv0 (F : FnV X.prog X.w X.K X.mg X.base (L2.CX X.prog X.w) k fa fd ps (spF X.K P ps.length (cl.call f))) (tk : Takes X W) (hr : Room k X.A) (hg : Gl X x) (hm : X.mg x = some (.ref fa)) (hk : PySem.W.keepIn X.K (.ref fa) = true) (hb : BndV X.K fd ps) (h1p : ps.length = 1)
    (hdb : (x == ("__debug__" : Str)) = false) : PE X (.Call (.Name x p) [] [] pos) (tE X.K P cl W (.callv f [])) := by
  refine ⟨fun pins s σ H Q I h => ?_⟩
  obtain ⟨S0, LL, ρ, q, e, R, hw, hq, hE⟩ := h
  refine wpAny_Call_Name_kw (ld_glob I hg hm ?_ hdb)
  refine PySem.W.callWith_K0 I.kIn hk ?_
  exact run_fnV (E := WE W σ) F hr hb (passAt tk σ) I (us := []) .nil (by simp) (by rw [h1p]; exact callv_sp (cs := []) R (Same.refl H) .nil hw hq hE)
end
end Uq

set_option maxHeartbeats 4000000
/-! Uq, part i6: sorted(set(t)), t a tuple of tuples of ints. -/
namespace Uq
open PySem PySem.Spec PySem.Calls PyProof.Rows L2
section
variable {P : Program} {w : World} {A : Around} {E : Value → Shared → Prop} {s : Shared}
/-- a new set -/
def newSetO (w : World) : Obj := { cls := .type "set", dict := none, data := .set #[] 0 (.fresh 0 0 (!w.params.followText "set-order")) }
def withSet (w : World) (s : Shared) : Shared := { s with heap := s.heap.push (newSetO w) }
theorem none_behind {h : Heap} {b : Addr} (hb : h.objs.size ≤ b) : h.get? b = none := by
  cases q : h.get? b with
  | none => rfl
  | some o => exact absurd (Heap.lt_size q) (Nat.not_lt.mpr hb)
theorem item_row {items : Array Value} {ks : List (Addr × List Int)} (hit : items.toList = ks.map fun p => Value.ref p.1) (i : Nat) (v : Value) (hv : items[i]? = some v) : ∃ p, ks[i]? = some p ∧ v = .ref p.1 := by
  rw [← Array.getElem?_toList, hit, List.getElem?_map] at hv
  cases hq : ks[i]? with
  | none => rw [hq] at hv; cases hv
  | some p => rw [hq] at hv; exact ⟨p, rfl, (Option.some.inj hv).symm⟩
def SetGot (P : Program) (w : World) (ks : List (Addr × List Int)) (s : Shared) (h' : Heap) : Prop :=
  ∃ L es ep t, SetTR P w h' s.heap.objs.size L es ep t ∧ Got ks ks.length L ∧ ∀ b o, s.heap.get? b = some o → h'.get? b = some o
theorem call_set_tupU {l : Addr} {items : Array Value} (ks : List (Addr × List Int)) {Q : Value → Shared → Prop} (hh : A.handled = none) (hl : s.heap.IsTuple l items) (hit : items.toList = ks.map fun p => Value.ref p.1)
    (hk : ∀ p ∈ ks, IsT P w s.heap p.2 p.1) (hfew : ks.length < 64) (hu : A.units + 3 < cLine) (h : ∀ (h' : Heap) (tk : Nat), SetGot P w ks s h' → Q (.ref s.heap.objs.size) { s with heap := h', toks := tk }) :
    wpAny (model P w) A (call (.type "set") [.ref l]) Q E s := by
  have hisz : items.size = ks.length := by rw [← Array.length_toList, hit, List.length_map]
  obtain ⟨c, tl, hmro⟩ := F.called_set.mro
  have hmade := F.called_set.made
  have hsub := F.called_set.sub
  refine wpAny_call (codeAny_of_tree ?_)
  show wpAny _ _ (callAny (.type "set") _) _ _ _
  refine wpAny_pure ⟨Code.quiet_builtin _ (by decide +kernel), codeAny_builtin F.entry_type_call ?_⟩
  rw [Around.under_plain (weight_type_call_type "set" [.ref l] []) rfl]
  have h1 := F.called_set.notType
  have h2 := F.called_set.canCreate
  have hct := F.typeCall_set_1 (.ref l)
  repeat (any_goals (first | assumption | wp_step))
  refine codeAny_mono (code_set_led1 (.ref l) (E := E) (Q₁ := fun obj s₁ => obj = .ref s.heap.objs.size ∧ s₁ = withSet w s) ⟨rfl, rfl⟩) fun r s₁ hr => ?_
  cases r with
  | error e => exact hr
  | ok fl =>
    cases fl with
    | ret obj =>
      obtain ⟨rfl, rfl⟩ := hr
      have hS : (s.heap.push (newSetO w)).get? s.heap.objs.size = some (newSetO w) := Heap.get?_push_size _ rfl
      have hT : Shared.TypeIs (withSet w s) (.ref s.heap.objs.size) "set" := ⟨_, hS, rfl⟩
      have hli := F.called_set.init.lookup
      have hbi := F.called_set.init.bind (.ref s.heap.objs.size)
      repeat (any_goals (first | assumption | wp_step))
      refine codeAny_mono (codeAny_call_builtin (R := wants (fun r s₂ => r = .none ∧ ∃ h' tk, s₂ = { s with heap := h', toks := tk } ∧ SetGot P w ks s h') E) F.called_set.init.plain F.entry_set_init (check_set_init_1 hT ?_)) fun r₂ s₂ hr₂ => ?_
      · obtain ⟨ol, hol, hcl, nl, hdl⟩ := hl
        obtain ⟨ocls, odict, odata, oslots⟩ := ol
        simp only at hcl hdl
        subst hcl; subst hdl
        have hol' : (s.heap.push (newSetO w)).get? l = some { cls := .type "tuple", dict := odict, data := .seq items nl, slots := oslots } := Heap.get?_push_of_some _ hol
        have hst := F.sub_tuple_set
        have hsf := F.sub_tuple_frozenset
        have hne : (Value.type "tuple" == Value.type "dict") = false := by decide
        have ht1 : (s.heap.push (newSetO w)).IsTuple l items := ⟨_, hol', rfl, nl, rfl⟩
        unfold withSet Builtin.«set.__init__» noKeywords Builtin.Frozenset.updateFrom
        generalize hPI : pyIter = PI
        wp_walk
        subst hPI
        refine wpAny_pyIter_tuple ht1 ?_
        refine wpAny_bind (wpAny_runValue ?_)
        have lS : l < s.heap.objs.size := Heap.lt_size hol
        have zI : (s.heap.push (newSetO w)).objs.size = s.heap.objs.size + 1 := Heap.size_push ..
        have neI : l ≠ (s.heap.push (newSetO w)).objs.size := by rw [zI]; exact Nat.ne_of_lt (Nat.lt_succ_of_lt lS)
        have notin : s.heap.objs.size ∉ [(s.heap.push (newSetO w)).objs.size, l] := by
          rw [zI, List.mem_cons, List.mem_singleton, not_or]
          exact ⟨Nat.ne_of_lt (Nat.lt_succ_self _), Nat.ne_of_gt lS⟩
        have hand : A.in1.in1.in1.handled = none := by simp [hh]
        refine set_update_tups ((Walks.tuple hand _ l neI items).toS) s.heap.objs.size notin ks hisz hfew (item_row hit) s.heap hk (none_behind (Nat.le_refl _)) (fun b hb => none_behind (by rw [List.mem_singleton.mp hb, zI]; omega)) hu (items.size - 0) 0 _ (by omega) (Nat.zero_le _)
          ⟨⟨_, Heap.get?_push_size _ rfl, rfl, rfl⟩, ht1.push _⟩ (fun b o e => Heap.get?_push_of_some _ (Heap.get?_push_of_some _ e)) ⟨[], #[], 0, _, setTR_fresh (Heap.get?_push_of_some _ hS), Got.zero ks⟩ fun s' L es ep t hm hS' g' hkp => ?_
        obtain ⟨h', g2, d', tk', os'⟩ := s'
        obtain rfl : g2 = s.gens := hm.gens
        obtain rfl : d' = s.drawn := hm.drawn
        obtain rfl : os' = s.os := hm.os
        show wpAny _ _ _ _ _ _
        refine wpAny_pure ?_
        show wpAny _ _ (ret Value.none) _ _ _
        rw [hisz] at g'
        exact wpAny_pure ⟨rfl, h', tk', rfl, L, es, ep, t, hS', g', hkp⟩
      · cases r₂ with
        | error e => exact hr₂
        | ok fl₂ =>
          cases fl₂ with
          | ret r =>
            obtain ⟨rfl, h', tk, rfl, hg⟩ := hr₂
            repeat (any_goals (first | assumption | wp_step))
            exact h _ _ hg
          | _ => exact hr₂.elim
    | _ => exact hr.elim
end
section
variable {X : Cx}
/-- set(t), t a tuple of tuples of ints -/
def rSetOfU (K : PySem.W.Frag) (P : Program) (w : World) : List V → Hp → VK → Prop := fun xs H Q => ∃ (l : Addr) (ks : List (Addr × List Int)), xs = [V.ref l] ∧ SqT K H l (ks.map fun p => V.ref p.1) ∧ (∀ p ∈ ks, SqT K H p.1 (p.2.map V.int)) ∧ ks.length < 64 ∧
  ∀ a L, H a = none → (∀ p ∈ L, p ∈ ks) → (∀ p ∈ ks, p.2 ∈ L.map (·.2)) → Q (.ref a) (upd H a (SetTO P w a L))
theorem cr_setOfU (hc : X.calm = true) (hu : X.A.units + 64 < cLine) : CallR X (.type "set") (rSetOfU X.K X.prog X.w) := by
  intro pins s σ H xs us Q I r h
  obtain ⟨l, ks, rfl, hl, hk, hf, q⟩ := h
  rw [Vals.ref1 r]
  obtain ⟨its, rv, pl, hz⟩ := I.tuple hl
  have hn : H s.heap.objs.size = none := I.hok.fresh (Nat.le_refl _)
  refine call_set_tupU (P := X.prog) (w := X.w) ks (I.ok.hd hc) pl (by simpa using refs_of_vals rv) (fun p hp => I.isT (hk p hp)) hf (by omega) fun h' tk ⟨L, es, ep, t, R, g, k⟩ => ?_
  refine ⟨.ref s.heap.objs.size, _, I.laid (t' := tk) k (Nat.le_refl _) (setTO_new R.t0), rfl, q _ L hn (fun p hp => List.mem_of_mem_take (g.sub p hp)) fun p hp => g.all p (by rw [List.take_length]; exact hp)⟩
end
section
variable {X : Cx} {P : Pg} {cl : Cl} {W : WX} {a' : Expr} {a : C} {pos pos2 p q : Pos}
/-- of a list or of a tuple -/
def rSetOfE (K : PySem.W.Frag) (P : Program) (w : World) : List V → Hp → VK → Prop := fun xs H Q => rSetOfT K P w xs H Q ∨ rSetOfU K P w xs H Q
theorem cr_setOfE (hc : X.calm = true) (hu : X.A.units + 64 < cLine) : CallR X (.type "set") (rSetOfE X.K X.prog X.w) := fun pins s σ H xs us Q I r h => by
  rcases h with h | h
  · exact cr_setOfT hc hu pins s σ H xs us Q I r h
  · exact cr_setOfU hc hu pins s σ H xs us Q I r h
end
end Uq

set_option maxHeartbeats 1000000
/-! Uq, part i7: max of a list of ints, with a default. -/
namespace Uq
open PySem PySem.Spec PyProof.Rows L2
theorem maxOf_top : ∀ (ys : List Int) (y : Int), W.maxOf y ys ∈ y :: ys ∧ ∀ z ∈ y :: ys, z ≤ W.maxOf y ys
  | [], y => ⟨List.mem_cons_self, fun z hz => by rw [List.mem_singleton.mp hz]; exact Int.le_refl _⟩
  | x :: ys, y => by
    have e : W.maxOf y (x :: ys) = W.maxOf (if y < x then x else y) ys := by
      show List.foldl _ _ _ = List.foldl _ _ _
      rw [List.foldl_cons]
      congr 1
      show (if decide (y < x) = true then x else y) = _
      simp
    obtain ⟨h1, h2⟩ := maxOf_top ys (if y < x then x else y)
    rw [e]
    have hd := h2 _ List.mem_cons_self
    generalize W.maxOf (if y < x then x else y) ys = M at *
    refine ⟨?_, fun z hz => ?_⟩
    · rcases List.mem_cons.mp h1 with q | q
      · rw [q]
        split
        · simp
        · simp
      · exact List.mem_cons_of_mem _ (List.mem_cons_of_mem _ q)
    · rcases List.mem_cons.mp hz with rfl | hz
      · split at hd <;> omega
      · rcases List.mem_cons.mp hz with rfl | hz
        · split at hd <;> omega
        · exact h2 z (List.mem_cons_of_mem _ hz)
section
variable {X : Cx} {P : Pg} {cl : Cl} {W : WX} {a' b' : Expr} {a b : C} {pos p kp : Pos}
def rMaxD (K : PySem.W.Frag) : List V → List V → Hp → VK → Prop := fun xs zs H Q => ∃ (l : Addr) (ns : List Int) (d : Int), xs = [.ref l] ∧ zs = [.int d] ∧ SqL K H l (ns.map V.int) ∧ (ns = [] → Q (.int d) H) ∧ ∀ m, m ∈ ns → (∀ y, y ∈ ns → y ≤ m) → Q (.int m) H
theorem crk_maxd (hc : X.calm = true) (hu : X.A.units + 70 < cLine) : CallRK X (.builtin "max") ["default"] (rMaxD X.K) := by
  intro pins s σ H xs zs us ws Q I r rz h
  obtain ⟨l, ns, d, rfl, rfl, hs, h0, h1⟩ := h
  obtain ⟨its, rv, hl, _⟩ := I.list hs
  obtain ⟨u, rfl, ru⟩ := vals1 r
  cases (show u = Value.ref l from ru)
  obtain ⟨w, rfl, rw'⟩ := vals1 rz
  obtain ⟨t, rfl⟩ := (show ∃ t, w = Value.int d t from rw')
  refine W.max_list_datum_default (α := Int) (xs := ns) (I.ok.hd hc) hl.isList ⟨[], PyProof.Rows.IntsAre.reads _ (by simpa using rv.ints)⟩ (by show X.A.units + 1 + 0 < cLine; omega) (fun e h' tk hk => ⟨.int d, H, I.kept hk, ⟨_, rfl⟩, h0 e⟩) fun y ys i v h' tk e _ ⟨as, hv⟩ hk => ?_
  cases hv with
  | int m t =>
    obtain ⟨g1, g2⟩ := maxOf_top ys y
    exact ⟨.int _, H, I.kept hk, ⟨_, rfl⟩, h1 _ (by rw [e]; exact g1) (by rw [e]; exact g2)⟩
variable {pos2 q : Pos}
theorem e_sset (hc : X.calm = true) (hu : X.A.units + 64 < cLine) (hg : Gl X "sorted") (hm : X.mg "sorted" = none) (hg2 : Gl X "set") (hm2 : X.mg "set" = none) (ha : PE X a' (tE X.K P cl W a)) (na : okE a' = true) :
    PE X (.Call (.Name "sorted" p) [.Call (.Name "set" q) [a'] [] pos2] [] pos) (tE X.K P cl W (.bi .sset [a])) := by
  have inner := pe_callTy (pos := pos2) (p := q) (cr_setOfE hc hu) hg2 hm2 sset_boot (pa_cons ha pa_nil (okE_star na)) (by decide) (by decide) (okE_star na) rfl
  refine peI (pe_callB (cr_sortedT hc) hg hm sorted_boot (pa_cons inner pa_nil rfl) (by decide) (by decide) rfl rfl) fun σ H Q ⟨S0, LL, ρ, qq, e, R, hw, hq, he⟩ => ?_
  refine ⟨S0, LL, ρ, _, e, R, hw, fun d v H1 s1 r1 h1 => ?_, he⟩
  have h1 : biR .sset [d] qq := h1
  have fin : ∀ (rows : List (List Int)) (k : Nat) (B : Int) (ks : List (Addr × List Int)), rows = ks.map (·.2) → (∀ p ∈ ks, SqT X.K H1 p.1 (p.2.map V.int)) → rows.length < 64 → 1 ≤ k → (∀ r ∈ rows, r.length = k ∧ TS.Bd B r) →
      (∀ out : List (List Int), out.Nodup → (∀ r, r ∈ out ↔ r ∈ rows) → out.Pairwise (fun q r => TS.code B q ≤ TS.code B r) → qq (.list (out.map rowD))) →
      ∀ s L, H1 s = none → (∀ p ∈ L, p ∈ ks) → (∀ p ∈ ks, p.2 ∈ L.map (·.2)) → rSortedT X.K X.prog X.w [V.ref s] (upd H1 s (SetTO X.prog X.w s L)) Q := by
    intro rows k B ks er hks hlen hk1 hall hout s L hs hsub hsup
    subst er
    have hlen2 : ks.length < 64 := by simpa using hlen
    have sm : Same H1 (upd H1 s (SetTO X.prog X.w s L)) := same_upd hs
    have hall2 : ∀ p ∈ ks, p.2.length = k ∧ TS.Bd B p.2 := fun p hp => hall p.2 (List.mem_map_of_mem hp)
    refine ⟨s, L, k, B, rfl, upd_same, fun p hp => Kp.sqT (S := fun _ => False) (.of_same sm) (hks p (hsub p hp)), hk1, fun p hp => hall2 p (hsub p hp), fun L' p2 hperm hnd hl64 hpw hp2 => ?_⟩
    have sm2 := sq_ sm (same_upd (o := HO.lst (L'.map fun q => V.ref q.1)) hp2)
    have inL : ∀ p ∈ L', p ∈ ks := fun p hp => hsub p (hperm.mem_iff.mp hp)
    have rr : Rps X.K (NmS S0 LL (nms (.bi .sset [a]))) (upd H1 s (SetTO X.prog X.w s L)) ((L'.map (·.2)).map rowD) (L'.map fun p => V.ref p.1) :=
      rows_back fun p hp => Kp.sqT (S := fun _ => False) (.of_same sm) (hks p (inL p hp))
    refine hq _ _ _ (sq_ s1 sm2) (Res.from (sq_ s1 sm) (new_lst rr hp2 (R.nmF (sq_ s1 sm) p2 hp2))) ?_
    refine hout (L'.map (·.2)) hnd (fun r => ⟨fun hr => ?_, fun hr => ?_⟩) ?_
    · obtain ⟨p, hp, rfl⟩ := List.mem_map.mp hr
      exact List.mem_map_of_mem (inL p hp)
    · obtain ⟨p, hp, rfl⟩ := List.mem_map.mp hr
      obtain ⟨p', hp', e'⟩ := List.mem_map.mp (hsup p hp)
      rw [← e']
      exact List.mem_map_of_mem (hperm.mem_iff.mpr hp')
    · rw [List.pairwise_map]
      exact hpw
  cases d <;> first | exact h1.elim | skip
  · obtain ⟨rows, k, B, rfl, hlen, hk1, hall, hout⟩ := h1
    obtain ⟨l, xs, rfl, sl, hl, r⟩ := r1.1.lst_
    obtain ⟨ks, rfl, er, hks⟩ := rows_of r
    exact .inl ⟨l, ks, rfl, SqL.of hl, hks, by rw [er, List.length_map] at hlen; exact hlen, fin rows k B ks er hks hlen hk1 hall hout⟩
  · obtain ⟨rows, k, B, rfl, hlen, hk1, hall, hout⟩ := h1
    obtain ⟨l, xs, rfl, hl, r⟩ := r1.1.tup_
    obtain ⟨ks, rfl, er, hks⟩ := rows_of r
    exact .inr ⟨l, ks, rfl, hl, hks, by rw [er, List.length_map] at hlen; exact hlen, fin rows k B ks er hks hlen hk1 hall hout⟩
theorem max_boot : bootBuiltins "max" = some (.builtin "max") := by decide +kernel
theorem e_maxd (hc : X.calm = true) (hu : X.A.units + 70 < cLine) (hg : Gl X "max") (hm : X.mg "max" = none) (ha : PE X a' (tE X.K P cl W a)) (na : okE a' = true) (hb : PE X b' (tE X.K P cl W b)) :
    PE X (.Call (.Name "max" p) [a'] [⟨some "default", b', kp⟩] pos) (tE X.K P cl W (.bi .maxd [a, b])) := by
  refine peI (pe_callBK (crk_maxd hc hu) hg hm max_boot (a_cons ha a_nil (okE_star na)) (k_cons hb k_nil) (by decide) (by decide) (by rw [okE_star na]; rfl) (by rw [okE_star na]; rfl) rfl rfl rfl) fun σ H Q ⟨S0, LL, ρ, q, e, R, hw, hq, he⟩ => ?_
  have hw : wE cl a ρ (fun v => wE cl b ρ (fun w => biR .maxd [v, w] q) e) e := hw
  refine ⟨S0, LL, ρ, fun ds => ∃ v, ds = [v] ∧ wE cl b ρ (fun w => biR .maxd [v, w] q) e, e, R, ?_, fun ds vs H1 s1 r1 l1 h1 => ?_, he⟩
  · show wE cl a ρ (fun v => ∃ v', [v] = [v'] ∧ wE cl b ρ (fun w => biR .maxd [v', w] q) e) e
    have e1 : (fun v : Uq.D => ∃ v', [v] = [v'] ∧ wE cl b ρ (fun w => biR .maxd [v', w] q) e) = fun v => wE cl b ρ (fun w => biR .maxd [v, w] q) e := by
      funext v
      exact propext ⟨fun ⟨v', z, h⟩ => by cases z; exact h, fun h => ⟨v, rfl, h⟩⟩
    rw [e1]
    exact hw
  · obtain ⟨v, rfl, hv⟩ := h1
    obtain ⟨x, rfl, rx⟩ := r1.one_
    refine ⟨S0, LL, ρ, fun ds => ∃ w, ds = [w] ∧ biR .maxd [v, w] q, e, R.same s1, ?_, fun ds ys H2 s2 r2 l2 h2 => ?_, fun k fs cv dx H' s x h => he k fs cv dx H' (sq_ s1 s) x h⟩
    · show wE cl b ρ (fun w => ∃ w', [w] = [w'] ∧ biR .maxd [v, w'] q) e
      have e1 : (fun w : Uq.D => ∃ w', [w] = [w'] ∧ biR .maxd [v, w'] q) = fun w => biR .maxd [v, w] q := by
        funext w
        exact propext ⟨fun ⟨w', z, h⟩ => by cases z; exact h, fun h => ⟨w, rfl, h⟩⟩
      rw [e1]
      exact hv
    · obtain ⟨w, rfl, hw2⟩ := h2
      obtain ⟨y, rfl, ry⟩ := r2.one_
      cases v <;> cases w <;> first | exact hw2.elim | skip
      rename_i ds d
      obtain ⟨ns, g1, g2, g3⟩ := hw2
      obtain ⟨l, xs, rfl, _, hl, rr⟩ := rx.lst_
      have ey := ry.int_
      subst ey
      rw [ints_eq g1] at rr
      rw [rr.ints_] at hl
      exact ⟨l, ns, d, rfl, rfl, SqL.of (s2 l _ hl), fun z => hq _ _ H2 (sq_ s1 s2) res_int (g2 z), fun m m1 m2 => hq _ _ H2 (sq_ s1 s2) res_int (g3 m m1 m2)⟩
end
end Uq

set_option maxHeartbeats 1000000
/-! Uq, part j: walks, targets, comprehensions. -/
namespace Uq
open PySem PySem.Spec PyProof.Rows L2
/-- what a walk shares -/
def fzNm (k : IK) (es : List C) : List Nat := match k with
  | .rng1 => []
  | .rng2 => []
  | .rng3 => []
  | _ => nmsL es
theorem frzIt_eq (k : IK) (es : List C) (ρ : Env) : frzIt k es ρ = frzL (fzNm k es) ρ := by cases k <;> rfl
theorem fz_sub {k : IK} {es : List C} : ∀ i ∈ fzNm k es, i ∈ nmsL es := fun i h => by
  cases k <;> first | exact h | exact absurd h (by simp [fzNm])
/-- J gives ds, one by one, as long as what S lets stays -/
def Wk (K : PySem.W.Frag) (S : Addr → Prop) (J : It) (H1 : Hp) (ds : List D) : Prop := ∀ S' : Addr → Prop, (∀ a o, H1 a = some o → S a → S' a) → ∀ H i, Kp S' H1 H →
  (∀ d, ds[i]? = some d → J.go i H ∧ ∀ x H', J.yld i H x H' → Same H H' ∧ Rp K S' H' d x) ∧ (ds.length ≤ i → J.stop i H)
def tI (K : PySem.W.Frag) (P : Pg) (cl : Cl) (W : WX) (k : IK) (es : List C) : TI := fun σ H R' => ∃ S0 LL ρ q e, Rel K P S0 LL ρ σ H ∧ wEs cl es ρ (fun vs => itR k vs q) e ∧
  (∀ ds J H', Same H H' → Wk K (NmS S0 LL (fzNm k es)) J H' ds → q ds → R' J H') ∧ (∀ k fs cv dx H', Same H H' → XRp K P H' k fs cv dx → e k fs → W cv dx σ H')
section
variable {K : PySem.W.Frag} {S : Addr → Prop} {H : Hp}
theorem wk_list {a : Addr} {xs : List V} {ds : List D} (sa : S a) (ha : H a = some (.lst xs)) (r : Rps K S H ds xs) : Wk K S (Itl K a) H ds := fun S' hS H2 i kp => by
  have sa := hS a _ ha sa
  have r := r.wide hS
  have h2 := kp a _ ha (.inl sa)
  have r2 := Rps.mono (fun _ _ _ h => h) kp _ _ r
  refine ⟨fun d e => ?_, fun h => ⟨xs, SqL.of h2, by rw [← r.length]; exact h⟩⟩
  obtain ⟨x, ex, rx⟩ := r2.get e
  refine ⟨⟨xs, x, SqL.of h2, ex⟩, fun y H' hy => ?_⟩
  obtain ⟨rfl, hy⟩ := hy
  have e3 := hy xs (SqL.of h2)
  rw [ex] at e3; cases e3
  exact ⟨Same.refl _, rx⟩
theorem wk_lk {a : Addr} {ns : List Int} (ha : LkL K H a (ns.map V.int)) : Wk K S (Itl K a) H (ns.map PyData.int) := fun S' hS H2 i kp => by
  have h2 := (kp.lkL ha).sq
  refine ⟨fun d e => ?_, fun h => ⟨_, h2, by rw [List.length_map] at h ⊢; exact h⟩⟩
  obtain ⟨x, ex, rx⟩ := (Rps.ints (K := K) (S := S') (H := H2) ns).get e
  refine ⟨⟨_, x, h2, ex⟩, fun y H' hy => ?_⟩
  obtain ⟨rfl, hy⟩ := hy
  have e3 := hy _ h2
  rw [ex] at e3; cases e3
  exact ⟨Same.refl _, rx⟩
theorem wk_tup {a : Addr} {xs : List V} {ds : List D} (ha : SqT K H a xs) (r : Rps K S H ds xs) : Wk K S (Itt K a) H ds := fun S' hS H2 i kp => by
  have r := r.wide hS
  have h2 := kp.sqT ha
  have r2 := Rps.mono (fun _ _ _ h => h) kp _ _ r
  refine ⟨fun d e => ?_, fun h => ⟨xs, h2, by rw [← r.length]; exact h⟩⟩
  obtain ⟨x, ex, rx⟩ := r2.get e
  refine ⟨⟨xs, x, h2, ex⟩, fun y H' hy => ?_⟩
  obtain ⟨rfl, hy⟩ := hy
  have e3 := hy xs h2
  rw [ex] at e3; cases e3
  exact ⟨Same.refl _, rx⟩
theorem upto_get : ∀ (n : Nat) (lo : Int) (i : Nat), (upto lo n)[i]? = if i < n then some (.int (lo + i)) else none
  | 0, lo, i => by simp [upto]
  | n + 1, lo, 0 => by simp [upto]
  | n + 1, lo, i + 1 => by
    show (upto (lo + 1) n)[i]? = _
    rw [upto_get n (lo + 1) i]
    have e : lo + 1 + (i : Int) = lo + ((i + 1 : Nat) : Int) := by omega
    rw [e]
    by_cases h : i < n <;> simp [h]
theorem upto_length : ∀ (n : Nat) (lo : Int), (upto lo n).length = n
  | 0, _ => rfl
  | n + 1, lo => by show (upto (lo + 1) n).length + 1 = n + 1; rw [upto_length n]
theorem wk_rng {lo : Int} {n : Nat} : Wk K S (Itr lo n) H (upto lo n) := fun S' hS H2 i kp => by
  rw [upto_length]
  refine ⟨fun d e => ?_, fun h => h⟩
  rw [upto_get] at e
  by_cases h : i < n
  · rw [if_pos h] at e; cases e
    refine ⟨h, fun x H' hy => ?_⟩
    obtain ⟨rfl, rfl⟩ := hy
    exact ⟨Same.refl _, by simp only [Rp]⟩
  · rw [if_neg h] at e; cases e
theorem enumF_get : ∀ (ds : List D) (lo : Int) (i : Nat), (enumF lo ds)[i]? = (ds[i]?).map fun d => .tuple [.int (lo + i), d]
  | [], lo, i => by simp [enumF]
  | d :: ds, lo, 0 => by simp [enumF]
  | d :: ds, lo, i + 1 => by
    show (enumF (lo + 1) ds)[i]? = _
    rw [enumF_get ds (lo + 1) i]
    have e : lo + 1 + (i : Int) = lo + ((i + 1 : Nat) : Int) := by omega
    rw [e]
    rfl
theorem enumF_length : ∀ (ds : List D) (lo : Int), (enumF lo ds).length = ds.length
  | [], _ => rfl
  | d :: ds, lo => by show (enumF (lo + 1) ds).length + 1 = ds.length + 1; rw [enumF_length ds]
theorem wk_enum {a : Addr} {xs : List V} {ds : List D} (sa : S a) (ha : H a = some (.lst xs)) (r : Rps K S H ds xs) : Wk K S (Ite K a) H (enumF 0 ds) := fun S' hS H2 i kp => by
  have sa := hS a _ ha sa
  have r := r.wide hS
  have h2 := kp a _ ha (.inl sa)
  have r2 := Rps.mono (fun _ _ _ h => h) kp _ _ r
  refine ⟨fun d e => ?_, fun h => ⟨xs, SqL.of h2, by rw [← r.length, ← enumF_length ds 0]; exact h⟩⟩
  rw [enumF_get] at e
  cases q : ds[i]? with
  | none => rw [q] at e; cases e
  | some d0 =>
    rw [q] at e
    have e : PyData.tuple [.int (0 + (i : Int)), d0] = d := Option.some.inj e
    subst e
    obtain ⟨x, ex, rx⟩ := r2.get q
    refine ⟨⟨xs, x, SqL.of h2, ex⟩, fun y H' hy => ?_⟩
    obtain ⟨T, x', rfl, hT, rfl, hy⟩ := hy
    have e3 := hy xs (SqL.of h2)
    rw [ex] at e3; cases e3
    refine ⟨same_upd hT, new_tup (.cons ?_ (.one rx)) hT⟩
    simp only [Rp, Int.zero_add]
theorem wk_enumT {a : Addr} {xs : List V} {ds : List D} (ha : SqT K H a xs) (r : Rps K S H ds xs) : Wk K S (ItE K a) H (enumF 0 ds) := fun S' hS H2 i kp => by
  have r := r.wide hS
  have h2 := kp.sqT ha
  have r2 := Rps.mono (fun _ _ _ h => h) kp _ _ r
  refine ⟨fun d e => ?_, fun h => ⟨xs, h2, by rw [← r.length, ← enumF_length ds 0]; exact h⟩⟩
  rw [enumF_get] at e
  cases q : ds[i]? with
  | none => rw [q] at e; cases e
  | some d0 =>
    rw [q] at e
    have e : PyData.tuple [.int (0 + (i : Int)), d0] = d := Option.some.inj e
    subst e
    obtain ⟨x, ex, rx⟩ := r2.get q
    refine ⟨⟨xs, x, h2, ex⟩, fun y H' hy => ?_⟩
    obtain ⟨T, x', rfl, hT, rfl, hy⟩ := hy
    have e3 := hy xs h2
    rw [ex] at e3; cases e3
    refine ⟨same_upd hT, new_tup (.cons ?_ (.one rx)) hT⟩
    simp only [Rp, Int.zero_add]
end
section
variable {X : Cx} {P : Pg} {cl : Cl} {W : WX} {a' b' tg : Expr} {a b c : C} {pos p : Pos} {x : Str} {cs : List C} {es : List Expr}
theorem piI {it : Expr} {t t' : TI} (h : PI X tg it t) (i : ∀ σ H Q, t' σ H Q → t σ H Q) : PI X tg it t' := ⟨fun pins s σ H Q I q => h.run pins s σ H Q I (i σ H Q q)⟩
def iVal (K : PySem.W.Frag) (te : TE) : TI := fun σ H R => te σ H fun x H1 => (∃ a, x = .ref a ∧ (∃ xs, SqL K H1 a xs) ∧ R (Itl K a) H1) ∨ (∃ a, x = .ref a ∧ (∃ xs, SqT K H1 a xs) ∧ R (Itt K a) H1)
theorem pi_val {te : TE} (hl : PE X a' te) : PI X tg a' (iVal X.K te) := by
  refine ⟨fun pins s σ H R I h => ?_⟩
  refine thn (hl.run pins s σ H _ I h) fun v s1 ⟨x, H1, I1, r1, q1⟩ => ?_
  rcases q1 with ⟨a, e, ⟨xs, hq⟩, q⟩ | ⟨a, e, ⟨xs, hq⟩, q⟩
  · subst e
    cases r1
    obtain ⟨its, rv, p, hz⟩ := I1.list hq
    refine wpAny_pyIter_list p.isList ?_
    refine ⟨s1.heap.objs.size, [s1.heap.objs.size], _, _, H1, rfl, I1.kept (t' := s1.toks) fun b o e => Heap.get?_push_of_some _ e, turn_list a _, ⟨_, Heap.get?_push_size _ rfl, rfl, rfl⟩, fun b hb => ?_, q⟩
    have e : b = s1.heap.objs.size := by simpa using hb
    subst e
    exact I1.fpOk (Nat.le_refl _) (I1.hok.fresh (Nat.le_refl _))
  · subst e
    cases r1
    obtain ⟨its, rv, p, hz⟩ := I1.tuple hq
    refine wpAny_pyIter_tuple (show s1.heap.IsTuple a its.toArray from p) ?_
    refine ⟨s1.heap.objs.size, [s1.heap.objs.size], _, _, H1, rfl, I1.kept (t' := s1.toks) fun b o e => Heap.get?_push_of_some _ e, turn_tuple a _, ⟨_, Heap.get?_push_size _ rfl, rfl, rfl⟩, fun b hb => ?_, q⟩
    have e : b = s1.heap.objs.size := by simpa using hb
    subst e
    exact I1.fpOk (Nat.le_refl _) (I1.hok.fresh (Nat.le_refl _))
theorem i_val (ha : PE X a' (tE X.K P cl W a)) : PI X tg a' (tI X.K P cl W .val [a]) := by
  refine piI (pi_val ha) fun σ H R' ⟨S0, LL, ρ, q, e, R, hw, hq, he⟩ => ⟨S0, LL, ρ, _, e, R, hw, fun d v H1 s1 r1 h1 => ?_, he⟩
  have h1 : itR .val [d] q := h1
  have r1 : Rp X.K (NmS S0 LL (fzNm .val [a])) H1 d v := r1.1.wide fun _ _ _ z => z.sub fun i h => by show i ∈ nms a ++ []; simpa using h
  cases d <;> first | exact h1.elim | skip
  · obtain ⟨l, xs, rfl, sl, hl, r⟩ := r1.lst_
    exact .inl ⟨l, rfl, ⟨xs, SqL.of hl⟩, hq _ _ H1 s1 (wk_list sl hl r) h1⟩
  · obtain ⟨l, xs, rfl, hl, r⟩ := r1.tup_
    exact .inr ⟨l, rfl, ⟨xs, hl⟩, hq _ _ H1 s1 (wk_tup hl r) h1⟩
  · obtain ⟨l, ns, rfl, hl, ek⟩ := r1.dic_
    have h1 : q (_ : List D) := h1
    have e2 : (ns.map fun n => ((PyData.none, PyData.int n) : D × D)).map (·.2) = ns.map PyData.int := by rw [List.map_map]; rfl
    rw [ek, e2] at h1
    exact .inl ⟨l, rfl, ⟨_, hl.sq⟩, hq _ _ H1 s1 (wk_lk hl) h1⟩
theorem i_rng1 (hg : Gl X "range") (hm : X.mg "range" = none) (ha : PA X [a'] (tEsL X.K P cl W [a])) (hs : starEach [a'] X.env = [(false, eval a' X.env)]) : PI X tg (.Call (.Name "range" p) [a'] [] pos) (tI X.K P cl W .rng1 [a]) := by
  refine piI (pi_range1 hg hm ha hs) fun σ H R' ⟨S0, LL, ρ, q, e, R, hw, hq, he⟩ => ⟨S0, LL, ρ, _, e, R, hw, fun dd vs H1 s1 r1 l1 h1 => ?_, he⟩
  cases dd with
  | nil => cases l1
  | cons d dd =>
    cases dd with
    | cons _ _ => cases l1
    | nil =>
      obtain ⟨v, rfl, rv⟩ := r1.one_
      have h1 : itR .rng1 [d] q := h1
      cases d <;> first | exact h1.elim | skip
      have e := rv.int_; subst e
      exact ⟨_, rfl, h1.1.1, h1.1.2, hq _ _ H1 s1 wk_rng h1.2⟩
theorem i_rng2 (hg : Gl X "range") (hm : X.mg "range" = none) (ha : PA X [a', b'] (tEsL X.K P cl W [a, b])) (hs : starEach [a', b'] X.env = [(false, eval a' X.env), (false, eval b' X.env)]) (hs2 : starEach [b'] X.env = [(false, eval b' X.env)]) :
    PI X tg (.Call (.Name "range" p) [a', b'] [] pos) (tI X.K P cl W .rng2 [a, b]) := by
  refine piI (pi_range2 hg hm ha hs hs2) fun σ H R' ⟨S0, LL, ρ, q, e, R, hw, hq, he⟩ => ⟨S0, LL, ρ, _, e, R, hw, fun dd vs H1 s1 r1 l1 h1 => ?_, he⟩
  match dd, l1, r1, h1 with
  | [d, d'], _, r1, h1 =>
    obtain ⟨v, w, rfl, rv, rw⟩ := r1.two_
    have h1 : itR .rng2 [d, d'] q := h1
    cases d <;> cases d' <;> first | exact h1.elim | skip
    have e := rv.int_; subst e
    have e := rw.int_; subst e
    exact ⟨_, _, rfl, h1.1, hq _ _ H1 s1 wk_rng h1.2⟩
theorem i_enum {elts : List Expr} {kk : Nat} {tpos : Pos} (hg : Gl X "enumerate") (hm : X.mg "enumerate" = none) (ha : PA X [a'] (tEsL X.K P cl W [a])) (hs : starEach [a'] X.env = [(false, eval a' X.env)]) :
    PI X (.Tuple elts kk tpos) (.Call (.Name "enumerate" p) [a'] [] pos) (tI X.K P cl W .enum [a]) := by
  refine piI (pi_en hg hm ha hs) fun σ H R' ⟨S0, LL, ρ, q, e, R, hw, hq, he⟩ => ⟨S0, LL, ρ, _, e, R, hw, fun dd vs H1 s1 r1 l1 h1 => ?_, he⟩
  match dd, l1, r1, h1 with
  | [d], _, r1, h1 =>
    obtain ⟨v, rfl, rv⟩ := r1.one_
    have h1 : itR .enum [d] q := h1
    cases d <;> first | exact h1.elim | skip
    · obtain ⟨l, xs, rfl, sl, hl, r⟩ := rv.lst_
      exact .inl ⟨l, xs, rfl, SqL.of hl, hq _ _ H1 s1 (wk_enum sl hl r) h1⟩
    · obtain ⟨l, xs, rfl, hl, r⟩ := rv.tup_
      exact .inr ⟨l, xs, rfl, hl, hq _ _ H1 s1 (wk_enumT hl r) h1⟩

/-! ### targets -/
def gTs : List Nat → TGs
  | [] => gNil
  | i :: is => gCons (gName i) (gTs is)
def gTg (K : PySem.W.Frag) : Tg → TG
  | .nm i => gName i
  | .tp is => gTup K is.length (gTs is)
/-- where names are stored: osc the written scope -/
structure At (X : Cx) (osc : Scope) : Prop where
  st : ∀ x, isSt osc x = true → Loc X.env.scope x ∧ (X.fn x = true ∨ X.env.scope.names.lookup x = some .local)
theorem pg_nm {cf : Cf} {osc : Scope} {i : Nat} {e : Expr} (hN : X.N.Nodup) (eN : X.N = cf.N) (A : At X osc) (h : chkNm cf osc i e = true) : PG X e (gName i) := by
  unfold chkNm at h
  split at h
  · simp only [Bool.and_eq_true, decide_eq_true_eq] at h
    obtain ⟨l, f⟩ := A.st _ h.2
    exact pg_name hN (by rw [eN]; exact h.1) l f
  · cases h
theorem nm_star {cf : Cf} {osc : Scope} {i : Nat} {e : Expr} {es : List Expr} {env : PySem.Env} (h : chkNm cf osc i e = true) : assignEach (e :: es) env = (false, assign e env) :: assignEach es env := by
  unfold chkNm at h
  split at h
  · rfl
  · cases h
theorem pgs_nms {cf : Cf} {osc : Scope} (hN : X.N.Nodup) (eN : X.N = cf.N) (A : At X osc) : ∀ (is : List Nat) (es : List Expr), chkNms cf osc is es = true → PGs X es (gTs is) ∧ (assignEach es X.env).length = is.length ∧ (assignEach es X.env).findIdx? (·.1) = none
  | [], [], _ => ⟨pgs_nil, rfl, rfl⟩
  | i :: is, e :: es, h => by
    simp only [chkNms, Bool.and_eq_true] at h
    obtain ⟨h1, h2, h3⟩ := pgs_nms hN eN A is es h.2
    have q := nm_star (es := es) (env := X.env) h.1
    refine ⟨pgs_cons (pg_nm hN eN A h.1) h1 (by rw [q]; rfl), by rw [q, List.length_cons, h2]; rfl, ?_⟩
    rw [q, List.findIdx?_cons, h3]
    rfl
  | [], _ :: _, h => by cases h
  | _ :: _, [], h => by cases h
theorem pg_tg {cf : Cf} {osc : Scope} {t : Tg} {e : Expr} (hc : X.calm = true) (hN : X.N.Nodup) (eN : X.N = cf.N) (A : At X osc) (h : chkTg cf osc t e = true) : PG X e (gTg X.K t) := by
  unfold chkTg at h
  split at h
  · exact pg_nm hN eN A h
  · simp only [Bool.and_eq_true] at h
    obtain ⟨h1, h2, h3⟩ := pgs_nms hN eN A _ _ h.1.1
    exact pg_tup hc h1 h2 h3
  · cases h
end
section
variable {K : PySem.W.Frag} {P : Pg} {S0 : Addr → Prop} {H : Hp}
/-- behind a store: the slots is are set -/
structure Stored (K : PySem.W.Frag) (P : Pg) (S0 : Addr → Prop) (is : List Nat) (LL : Ow) (σ : L2.St) (H : Hp) (LL' : Ow) (ρ' : Env) (σ' : L2.St) : Prop where
  rel : Rel K P S0 LL' ρ' σ' H
  fm : Fm LL H LL' H
  ss : ∀ a, SS S0 LL a → SS S0 LL' a
  ln : σ'.length = σ.length
  out : ∀ j, j ∉ is → σ'[j]? = σ[j]?
  keep : ∀ j, j ∉ is → LL' j = LL j
theorem set_read {i : Nat} {d : D} {x : V} {LL : Ow} {ρ : Env} {σ : L2.St} (R : Rel K P S0 LL ρ σ H) (hr : Rp K (SS S0 LL) H d x) : Stored K P S0 [i] LL σ H (Lset LL i []) (ρ.set i (.va d)) (σ.set i (some x)) :=
  ⟨R.setVa i hr, Fm.less, fun _ h => h.less, by simp, fun j hj => by rw [List.getElem?_set_ne]; intro e; exact hj (by simp [e]), fun j hj => Lset_ne (by simpa using hj)⟩
theorem sets_read {Qs : L2.St → Hp → Prop} : ∀ {is : List Nat} {ds : List D} {xs : List V} {LL : Ow} {ρ ρ' : Env} {σ : L2.St}, Rel K P S0 LL ρ σ H → Rps K (SS S0 LL) H ds xs → setL is ds ρ = some ρ' →
    (∀ LL' σ', Stored K P S0 is LL σ H LL' ρ' σ' → Qs σ' H) → gTs is xs σ H Qs
  | [], [], xs, LL, ρ, ρ', σ, R, hr, e, hq => by
    simp only [Rps] at hr
    subst hr
    cases e
    exact ⟨rfl, hq LL σ ⟨R, Fm.refl, fun _ h => h, rfl, fun _ _ => rfl, fun _ _ => rfl⟩⟩
  | i :: is, d :: ds, xs, LL, ρ, ρ', σ, R, hr, e, hq => by
    simp only [Rps] at hr
    obtain ⟨x, r, rfl, h1, h2⟩ := hr
    have S1 := set_read (i := i) R h1
    refine ⟨x, r, rfl, sets_read (is := is) S1.rel (h2.wide fun a _ _ h => S1.ss a h) e fun LL' σ' S2 => hq LL' σ' ⟨S2.rel, S1.fm.trans S2.fm, fun a h => S2.ss a (S1.ss a h), S2.ln.trans S1.ln, fun j hj => ?_, fun j hj => ?_⟩⟩
    · simp only [List.mem_cons, not_or] at hj
      rw [S2.out j hj.2, S1.out j (by simp [hj.1])]
    · simp only [List.mem_cons, not_or] at hj
      rw [S2.keep j hj.2, S1.keep j (by simp [hj.1])]
  | [], _ :: _, xs, LL, ρ, ρ', σ, R, hr, e, hq => by cases e
  | _ :: _, [], xs, LL, ρ, ρ', σ, R, hr, e, hq => by cases e
theorem setL_len : ∀ {is : List Nat} {ds : List D} {ρ ρ' : Env}, setL is ds ρ = some ρ' → is.length = ds.length
  | [], [], _, _, _ => rfl
  | _ :: is, _ :: ds, _, _, e => by simp [setL_len (is := is) e]
  | [], _ :: _, _, _, e => by cases e
  | _ :: _, [], _, _, e => by cases e
theorem tg_read {t : Tg} {d : D} {x : V} {LL : Ow} {ρ : Env} {σ : L2.St} {Q : Env → Prop} {Qs : L2.St → Hp → Prop} (R : Rel K P S0 LL ρ σ H) (hr : Rp K (SS S0 LL) H d x) (h : tgR t d ρ Q)
    (hq : ∀ LL' ρ' σ', Stored K P S0 (tgI t) LL σ H LL' ρ' σ' → Q ρ' → Qs σ' H) : gTg K t x σ H Qs := by
  cases t with
  | nm i => exact hq _ _ _ (set_read R hr) h
  | tp is =>
    cases d <;> first | exact h.elim | skip
    rename_i ds
    obtain ⟨a, xs, rfl, ha, r⟩ := hr.tup_
    have h : (match setL is ds ρ with
      | some ρ' => Q ρ'
      | none => False) := h
    cases e : setL is ds ρ with
    | none => rw [e] at h; exact h.elim
    | some ρ' =>
      rw [e] at h
      exact ⟨a, xs, rfl, ha, by rw [← r.length, setL_len e], sets_read R r e fun LL' σ' S => hq LL' ρ' σ' S h⟩
end
end Uq

set_option maxHeartbeats 1000000
/-! Uq, part k: comprehensions. -/
namespace Uq
open PySem PySem.Spec PyProof.Rows L2
abbrev W0 : WX := fun _ _ _ _ => False
def tTs (K : PySem.W.Frag) (P : Pg) (cl : Cl) (cd : List C) : TT := fun σ H Q => ∃ S0 LL ρ q, Rel K P S0 LL ρ σ H ∧ wTs cl cd ρ q ∧ (∀ b H', Same H H' → q b → Q b H')
section
variable {X : Cx} {P : Pg} {cl : Cl} {W : WX} {e' : Expr}
theorem ptsI {es : List Expr} {t t' : TT} (h : PTs X es t) (i : ∀ σ H Q, t' σ H Q → t σ H Q) : PTs X es t' := ⟨fun pins s σ H Q I q => h.run pins s σ H Q I (i σ H Q q)⟩
theorem ts_nil : PTs X [] (tTs X.K P cl []) := ptsI pts_nil fun σ H Q ⟨S0, LL, ρ, q, R, hw, hq⟩ => hq true H (Same.refl H) hw
theorem ts_one {c : C} (h : PT X e' (tT X.K P cl W0 c)) : PTs X [e'] (tTs X.K P cl [c]) := ptsI (pts_one h) fun σ H Q ⟨S0, LL, ρ, q, R, hw, hq⟩ => by
  refine ⟨S0, LL, ρ, _, _, R, hw, fun d H' s h => truR_mono h fun b hb => ?_, fun k fs cv dx H' s x h => h.elim⟩
  cases b with
  | true => exact hq true H' s hb
  | false => exact hq false H' s hb
end
section
variable {K : PySem.W.Frag} {P : Pg} {S0 : Addr → Prop} {H H1 : Hp}
/-- the same, but for one new address -/
theorem Rel.but {LL : Ow} {ρ : Env} {σ : L2.St} {D : Addr} (R : Rel K P S0 LL ρ σ H1) (hD : H1 D = none) (s : Same H1 H) (hs : ∃ o, H D = some o) : Rel K P (fun a => S0 a ∧ a ≠ D) LL ρ σ H where
  ln := R.ln
  slot := fun i t e => (R.slot i t e).mono (fun a o ea h => ⟨⟨h.1, ne_of_none ea hD⟩, h.2⟩) (.of_same s) fun a ha => by
    obtain ⟨_, xs, e⟩ := R.own i a ha
    rw [e, s a _ e]
  dj := R.dj
  own := fun i a h => by
    obtain ⟨h0, xs, e⟩ := R.own i a h
    exact ⟨⟨h0, ne_of_none e hD⟩, xs, s a _ e⟩
  fr := fun a h => ⟨R.fr a (same_none s h), fun z => by
    obtain ⟨o, ho⟩ := hs
    rw [z, ho] at h; cases h⟩
theorem wipe_set {σ : L2.St} {i : Nat} {v : Option V} : ∀ {vs : List Nat}, i ∈ vs → wipe (σ.set i v) vs = wipe σ vs
  | j :: vs, h => by
    by_cases hm : i ∈ vs
    · show (wipe (σ.set i v) vs).set j none = (wipe σ vs).set j none
      rw [wipe_set hm]
    · have e : i = j := (List.mem_cons.mp h).resolve_right hm
      subst e
      have key : ∀ (us : List Nat), i ∉ us → wipe (σ.set i v) us = (wipe σ us).set i v := fun us => by
        induction us with
        | nil => intro _; rfl
        | cons u us ih =>
          intro hn
          simp only [List.mem_cons, not_or] at hn
          show (wipe (σ.set i v) us).set u none = ((wipe σ us).set u none).set i v
          rw [ih hn.2, List.set_comm _ _ hn.1]
      show (wipe (σ.set i v) vs).set i none = (wipe σ vs).set i none
      rw [key vs hm, List.set_set]
theorem wipe_eq {σ σ' : L2.St} {vs : List Nat} (hl : σ'.length = σ.length) (h : ∀ j, j ∉ vs → σ'[j]? = σ[j]?) : wipe σ' vs = wipe σ vs := by
  apply List.ext_getElem?
  intro j
  by_cases hj : j ∈ vs
  · have key : ∀ (τ : L2.St), (wipe τ vs)[j]? = if j < τ.length then some none else none := fun τ => by
      have hlen := wipe_length τ vs
      by_cases hb : j < τ.length
      · rw [if_pos hb]
        have : j < (wipe τ vs).length := by omega
        cases q : (wipe τ vs)[j] with
        | none => rw [List.getElem?_eq_getElem this, q]
        | some x =>
          have q2 : (wipe τ vs)[j]? = some (some x) := by rw [List.getElem?_eq_getElem this, q]
          exact absurd hj (wipe_some q2).2
      · rw [if_neg hb, List.getElem?_eq_none (by omega)]
    rw [key, key, hl]
  · rw [wipe_out hj, wipe_out hj, h j hj]
end
theorem NmS.of_frz {S0 : Addr → Prop} {LL : Ow} {is nm m : List Nat} {a : Addr} (h : NmS S0 (Lfrz LL is) nm a) (h1 : ∀ i ∈ is, i ∈ m) (h2 : ∀ i ∈ nm, i ∈ m) : NmS S0 LL m a := ⟨h.1, fun i hi => by
  by_cases e : i ∈ is
  · exact h1 i e
  · refine h2 i (h.2 i ?_)
    rw [Lfrz_at, if_neg e]
    exact hi⟩
/-- behind the walk's end: the comprehension's list -/
theorem lc_read {K : PySem.W.Frag} {P : Pg} {cl : Cl} {W : WX} {e : C} {t : Tg} {k : IK} {es cd : List C} {σ : L2.St} {H : Hp} {Q : VK} (h : tE K P cl W (.lc e t k es cd) σ H Q) :
    tLc (tI K P cl W k es) (gTg K t) (tTs K P cl cd) (tE K P cl W0 e) (tgI t) σ H Q := by
  obtain ⟨S0, LL, ρ, q, E, R, hw, hq, he⟩ := h
  refine ⟨S0, LL, ρ, _, E, R, hw, fun ds J H1 s1 wk h1 => fun D hD => ?_, he⟩
  have R1 : Rel K P S0 (Lfrz (Lfrz LL (fzNm k es)) (tgI t)) (kil (tgI t) (frzIt k es ρ)) (wipe σ (tgI t)) H1 := by
    rw [frzIt_eq]
    exact ((R.same s1).frzL _).kil _ (wipe_length _ _) fun j hj => wipe_out hj
  have sub2 : ∀ {nm : List Nat} {a : Addr}, (∀ i ∈ nm, i ∈ nms (.lc e t k es cd)) → NmS S0 (Lfrz (Lfrz LL (fzNm k es)) (tgI t)) nm a → NmS S0 LL (nms (.lc e t k es cd)) a := fun {nm a} hn z => by
    have hz : ∀ i ∈ tgI t, i ∈ nms (.lc e t k es cd) := fun i hi => inr_ i (inr_ i (inr_ i hi))
    exact NmS.of_frz (NmS.of_frz z hz hn) (fun i hi => inr_ i (inl_ i (fz_sub i hi))) fun i hi => hi
  have wk0 : Wk K (SS S0 (Lfrz (Lfrz LL (fzNm k es)) (tgI t))) J H1 ds := fun S' hS => wk S' fun a o e z => hS a o e z.frz.frz
  generalize hLL : Lfrz (Lfrz LL (fzNm k es)) (tgI t) = L2 at R1 sub2 wk0
  generalize hρ : kil (tgI t) (frzIt k es ρ) = ρ2 at R1 h1
  refine ⟨fun i m H2 => m = ds.length - i ∧ ∃ acc vs, Same H1 H2 ∧ H2 D = some (.lst vs) ∧ Rps K (fun b => NmS S0 LL (nms (.lc e t k es cd)) b ∧ b ≠ D) H2 acc vs ∧
      lcW (fun ρ' q => wTs cl cd ρ' q) (fun ρ' q => wE cl e ρ' q fun _ _ => False) t ρ2 (ds.drop i) acc q, ⟨_, rfl, [], [], same_upd hD, upd_same, .nil, h1⟩, ?_⟩
  rintro i m H2 ⟨rfl, acc, vs, s2, hd2, ra, hl⟩
  have w := wk0 (SS (fun a => S0 a ∧ a ≠ D) L2) (fun a o ea z => ⟨⟨z.1, ne_of_none ea hD⟩, z.2⟩) H2 i (.of_same s2)
  cases ed : ds[i]? with
  | none =>
    have hi : ds.length ≤ i := by rw [List.getElem?_eq_none_iff] at ed; exact ed
    rw [List.drop_eq_nil_of_le hi] at hl
    refine .inl ⟨w.2 hi, hq _ _ H2 (sq_ s1 s2) ⟨?_, fun _ ds' ee => ?_⟩ hl⟩
    · simp only [Rp]
      refine ⟨D, vs, rfl, ?_, hd2, ra.wide fun b _ _ z => z.1⟩
      exact R.nmF s1 D hD
    · cases ee
      exact ⟨D, vs, rfl, same_none s1 hD, hd2, ra⟩
  | some d =>
    have hi : i < ds.length := (List.getElem?_eq_some_iff.mp ed).1
    obtain ⟨wg, wy⟩ := w.1 d ed
    have hdr : ds.drop i = d :: ds.drop (i + 1) := by
      rw [List.drop_eq_getElem_cons hi]
      congr 1
      rw [List.getElem?_eq_getElem hi] at ed
      exact Option.some.inj ed
    rw [hdr] at hl
    have hl : tgR t d ρ2 fun ρ' => wTs cl cd ρ' fun b => if b = true then wE cl e ρ' (fun v => acc.length < sizeLine ∧ lcW (fun ρ' q => wTs cl cd ρ' q) (fun ρ' q => wE cl e ρ' q fun _ _ => False) t ρ2 (ds.drop (i + 1)) (acc ++ [v]) q) (fun _ _ => False)
      else lcW (fun ρ' q => wTs cl cd ρ' q) (fun ρ' q => wE cl e ρ' q fun _ _ => False) t ρ2 (ds.drop (i + 1)) acc q := hl
    refine .inr ⟨wg, fun H' => ∃ acc vs, Same H1 H' ∧ H' D = some (.lst vs) ∧ Rps K (fun b => NmS S0 LL (nms (.lc e t k es cd)) b ∧ b ≠ D) H' acc vs ∧
      lcW (fun ρ' q => wTs cl cd ρ' q) (fun ρ' q => wE cl e ρ' q fun _ _ => False) t ρ2 (ds.drop (i + 1)) acc q, fun H' hH => ⟨ds.length - (i + 1), by omega, rfl, hH⟩, fun x H3 hy => ?_⟩
    obtain ⟨s3, rx⟩ := wy x H3 hy
    have hd3 : H3 D = some (.lst vs) := s3 D _ hd2
    have s13 : Same H1 H3 := sq_ s2 s3
    -- the item, not leaning on D: read it in the heap ahead of D
    have R3 : Rel K P (fun a => S0 a ∧ a ≠ D) L2 ρ2 (wipe σ (tgI t)) H3 := R1.but hD s13 ⟨_, hd3⟩
    refine tg_read R3 rx hl fun LL' ρ' σ' St hρ' => ?_
    have ew : wipe σ' (tgI t) = wipe (wipe σ (tgI t)) (tgI t) := wipe_eq St.ln St.out
    have ew := ew.trans (wipe_eq (wipe_length σ (tgI t)) fun j hj => wipe_out hj)
    refine ⟨ew, (fun a => S0 a ∧ a ≠ D), LL', ρ', _, St.rel, hρ', fun b H4 s4 hb => ?_⟩
    have hd4 : H4 D = some (.lst vs) := s4 D _ hd3
    have s14 : Same H1 H4 := sq_ s13 s4
    have ra4 := (ra.same s3).same s4
    cases b with
    | false => exact ⟨acc, vs, s14, hd4, ra4, hb⟩
    | true =>
      refine ⟨_, LL', ρ', _, _, St.rel.same s4, hb, fun v y H5 s5 rv hv => ?_, fun k fs cv dx H' s x h => h.elim⟩
      have hd5 : H5 D = some (.lst vs) := s5 D _ hd4
      have ra5 := ra4.same s5
      refine ⟨vs, hd5, by rw [← ra5.length]; exact hv.1, acc ++ [v], vs ++ [y], ?_, upd_same, ?_, hv.2⟩
      · exact fun a o ea => by
          have z := ne_of_none ea hD
          rw [upd_ne z]
          exact (sq_ s14 s5) a o ea
      · have kp : Kp (fun b => NmS S0 LL (nms (.lc e t k es cd)) b ∧ b ≠ D) H5 (upd H5 D (.lst (vs ++ [y]))) := fun a o ea h => by
          rw [upd_ne]
          · exact ea
          · rintro rfl
            rcases h with h | h
            · exact h.2 rfl
            · rw [hd5] at ea; cases ea; exact h _ rfl
        refine Rps.append (Rps.mono (fun _ _ _ h => h) kp _ _ ra5) (.one (Rp.mono (fun a o _ z => ?_) kp _ _ (rv.1.wide (S' := fun b => NmS S0 LL (nms (.lc e t k es cd)) b ∧ b ≠ D) fun a _ _ z => ?_)))
        · exact z
        · refine ⟨?_, z.1.2⟩
          refine sub2 (fun i hi => inl_ i hi) ⟨z.1.1, fun i hi => ?_⟩
          have hi2 : a ∈ Lfrz (Lfrz LL (fzNm k es)) (tgI t) i := by rw [hLL]; exact hi
          exact z.2 i (by rw [St.keep i (Lfrz_in hi2).2]; exact hi)
end Uq

set_option maxHeartbeats 1000000
/-! Uq, part l: every checked expression runs as its core term says. -/
namespace Uq
open PySem PySem.Spec PyProof.Rows L2
def biNames : List Str := ["len", "abs", "int", "bool", "max", "min", "sum", "tuple", "list", "sorted", "any", "all", "str", "dict", "isinstance", "range", "enumerate", "set", "ValueError"]
/-- what __init__ of the class at C does: self.f = value, field by field -/
def xsp (C : Addr) (fl : List Str) : Sp := fun us H Q _ => us.length = fl.length + 1 ∧ ∃ a vs, us = .ref a :: vs ∧ H a = some (exo a C none) ∧ ∀ d H2, H d = none → d ≠ a → H2 a = some (exo a C (some d)) → H2 d = some (exd d (fl.zip vs).reverse) →
  (∀ b, b ≠ a → b ≠ d → H2 b = H b) → Q .non H2
/-- a class that is raised -/
structure XMk (prog : Program) (w : World) (Kf : PySem.W.Frag) (mg : Str → Option Value) (base : Heap) (C : Addr) (fl : List Str) : Prop where
  oex : OexC Kf C
  ini : ∃ fI fd ps, PySem.W.findIn Kf (.ref C) "__init__" = some (some (.ref fI)) ∧ PySem.W.typeIn Kf (.ref fI) = some (.type "function") ∧ FnOk prog w Kf mg base CX0 1 fI fd ps (xsp C fl) ∧ Binds Kf fd ps []
  few : fl.length ≤ 100
/-- what stands of a frame's surroundings -/
structure Gd (X : Cx) (cf : Cf) (P : Pg) (cl : Cl) (k : Nat) : Prop where
  eN : X.N = cf.N
  nd : X.N.Nodup
  calm : X.calm = true
  rm : Room k X.A
  xa : P.xa = xa0
  bi : ∀ x ∈ biNames, X.mg x = none
  k2 : 2 ≤ k
  xc : ∀ x c, cf.xcI x = some c → X.mg x = some (.ref (P.CA c))
  rzE : cf.rz = P.rz
  made : ∀ c ∈ P.rz, XMk X.prog X.w X.K X.mg X.base (P.CA c) (P.flds c)
  fl : ∀ c, cl.flds c = P.flds c
  sub : ∀ c ∈ P.rz, ∀ x h, cf.xcI x = some h → PySem.W.exmOne X.K (.ref (P.CA c)) (.ref (P.CA h)) = some (cl.sub c h) ∧ PySem.W.kitOne X.K (.ref (P.CA c)) (.ref (P.CA h)) = some (cl.sub c h)
  subV : ∀ c ∈ P.rz, PySem.W.kitOne X.K (.ref (P.CA c)) (.type "ValueError") = some (cl.sub c 1000)
  exc : ∀ c ∈ P.rz, ExcC X.K (P.CA c) ∧ XfC X.K (P.CA c) ∧ ∀ f ∈ P.flds c, PySem.W.findIn X.K (.ref (P.CA c)) f = some none
  fn : ∀ x f, cf.fnI x = some f → ∃ fa fd, X.mg x = some (.ref fa) ∧ PySem.W.keepIn X.K (.ref fa) = true ∧ FnOk X.prog X.w X.K X.mg X.base (L2.CX X.prog X.w) k fa fd (cf.prm f) (spF X.K P (cf.prm f).length (cl.call f)) ∧ Binds X.K fd (cf.prm f) [] ∧
    ∀ n ks, (n, ks) ∈ cf.shp f → Shp X.K fd (cf.prm f) n ks
  fv : ∀ x f, cf.fvI x = some f → ∃ fa fd, X.mg x = some (.ref fa) ∧ PySem.W.keepIn X.K (.ref fa) = true ∧ FnV X.prog X.w X.K X.mg X.base (L2.CX X.prog X.w) k fa fd (cf.prm f) (spF X.K P (cf.prm f).length (cl.call f)) ∧ BndV X.K fd (cf.prm f) ∧ (cf.prm f).length = 1
theorem Gd.hu {X : Cx} {cf : Cf} {P : Pg} {cl : Cl} {k : Nat} (G : Gd X cf P cl k) : X.A.units + 70 < cLine := by have := G.rm.un; omega
inductive All2 {α β : Type} (R : α → β → Prop) : List α → List β → Prop
  | nil : All2 R [] []
  | cons {a b as bs} : R a b → All2 R as bs → All2 R (a :: as) (b :: bs)
section
variable {X : Cx} {P : Pg} {cl : Cl} {W : WX}
/-- an argument, run -/
def AEx (X : Cx) (P : Pg) (cl : Cl) (W : WX) (c : C) (e : Expr) : Prop := okE e = true ∧ PE X e (tE X.K P cl W c) ∧ PT X e (tT X.K P cl W c)
theorem args_pa : ∀ {cs : List C} {es : List Expr}, All2 (AEx X P cl W) cs es → PA X es (tEsL X.K P cl W cs)
  | _, _, .nil => a_nil
  | _, _, .cons h t => a_cons h.2.1 (args_pa t) (okE_star h.1)
theorem args_len {R : C → Expr → Prop} : ∀ {cs : List C} {es : List Expr}, All2 R cs es → cs.length = es.length
  | _, _, .nil => rfl
  | _, _, .cons h t => by simp [args_len t]
theorem args_plain {pos : Pos} {env : PySem.Env} : ∀ {cs : List C} {es : List Expr}, All2 (AEx X P cl W) cs es → (backTo pos (starEach es env)).any (·.1) = false
  | _, _, .nil => rfl
  | _, _, .cons h t => by
    rw [okE_star h.1]
    show (false || (backTo pos (starEach _ env)).any (·.1)) = false
    rw [args_plain t]; rfl
theorem args_split {R : C → Expr → Prop} : ∀ {cs : List C} (as bs : List Expr), All2 R cs (as ++ bs) → ∃ c1 c2, cs = c1 ++ c2 ∧ All2 R c1 as ∧ All2 R c2 bs
  | cs, [], bs, h => ⟨[], cs, rfl, .nil, h⟩
  | _, a :: as, bs, .cons h t => by
    obtain ⟨c1, c2, e, h1, h2⟩ := args_split as bs t
    exact ⟨_ :: c1, c2, by rw [e]; rfl, .cons h h1, h2⟩
theorem args_pk : ∀ {cs : List C} (kws : List Keyword), All2 (AEx X P cl W) cs (kws.map (·.value)) → PK X kws (tEsL X.K P cl W cs)
  | _, [], .nil => k_nil
  | _, ⟨nm, v, p⟩ :: kws, .cons h t => k_cons h.2.1 (args_pk kws t)
/-- what is shown of an expression -/
structure Run (X : Cx) (P : Pg) (cl : Cl) (W : WX) (c : C) (e : Expr) : Prop where
  pe : PE X e (tE X.K P cl W c)
  pt : PT X e (tT X.K P cl W c)
  pw : ∀ op vs p, e = .BoolOp op vs p → PW X e (tT X.K P cl W c)
theorem Run.of {c : C} {e : Expr} (h : PE X e (tE X.K P cl W c)) (ht : ∀ whole, isTrue e X.env whole = (do let v ← whole; standAt e.pos; holding [v] (truthy v))) (hn : ∀ op vs p, e ≠ .BoolOp op vs p) : Run X P cl W c e :=
  ⟨h, t_of h ht, fun op vs p z => absurd z (hn op vs p)⟩
theorem Run.of2 {c : C} {e : Expr} (h : PE X e (tE X.K P cl W c)) (ht : PT X e (tT X.K P cl W c)) (hn : ∀ op vs p, e ≠ .BoolOp op vs p) : Run X P cl W c e := ⟨h, ht, fun op vs p z => absurd z (hn op vs p)⟩
theorem t_ite {a b c : C} {a' b' c' : Expr} {pos : Pos} (hc : PT X c' (tT X.K P cl W c)) (ha : PT X a' (tT X.K P cl W a)) (hb : PT X b' (tT X.K P cl W b)) : PT X (.IfExp c' a' b' pos) (tT X.K P cl W (.ite c a b)) := by
  refine ⟨fun pins s σ H Q I ⟨S0, LL, ρ, q, e, R, hw, hq, he⟩ => ?_⟩
  have h1 : tT X.K P cl W c σ H fun k H1 => if k = true then tT X.K P cl W a σ H1 Q else tT X.K P cl W b σ H1 Q := by
    refine ⟨S0, LL, ρ, _, e, R, hw, fun d H1 s1 h1 => truR_mono h1 fun k hk => ?_, he⟩
    cases k with
    | true => exact ⟨S0, LL, ρ, _, e, R.same s1, hk, fun d H2 s2 h2 => hq d H2 (sq_ s1 s2) h2, fun k fs cv dx H' s2 x h => he k fs cv dx H' (sq_ s1 s2) x h⟩
    | false => exact ⟨S0, LL, ρ, _, e, R.same s1, hk, fun d H2 s2 h2 => hq d H2 (sq_ s1 s2) h2, fun k fs cv dx H' s2 x h => he k fs cv dx H' (sq_ s1 s2) x h⟩
  show wpAny _ _ (do if ← isTrue c' X.env (eval c' X.env) then isTrue a' X.env (eval a' X.env) else isTrue b' X.env (eval b' X.env)) _ _ _
  refine wpAny_bind (thn (hc.run pins s σ H _ I h1) fun k s1 ⟨H1, I1, q1⟩ => ?_)
  cases k with
  | true => exact ha.run pins s1 σ H1 Q I1 q1
  | false => exact hb.run pins s1 σ H1 Q I1 q1
end
theorem mIx0 : True := trivial

section
variable {cf : Cf} {P : Pg} {k : Nat} {cl : Cl}
theorem Gd.blk {X : Cx} (G : Gd X cf P cl k) (s : Shared) (H : Hp) (scope : Scope) (cenv : PySem.Env) (fp : List Addr) : Gd (X.blk s H scope cenv fp) cf P cl k := ⟨G.eN, G.nd, G.calm, G.rm, G.xa, G.bi, G.k2, G.xc, G.rzE, G.made, G.fl, G.sub, G.subV, G.exc, G.fn, G.fv⟩
theorem takes0 {X : Cx} {s : Shared} {H : Hp} {scope : Scope} {cenv : PySem.Env} {fp : List Addr} : Takes (X.blk s H scope cenv fp) W0 := fun u s' ⟨a, B, sI, pins, σ, H', cls, d, e, I, nb, up, sky, na, os, ag, w⟩ => w
theorem Gd.b {X : Cx} (G : Gd X cf P cl k) {x : Str} (h : x ∈ biNames) : X.mg x = none := G.bi x h
theorem vis_ {X : Cx} {sc : Scope} {x : Str} (h : isL sc x = true) (e : X.env.scope = sc) : Vis X.env.scope x := vis_of h e
theorem bne_ {x y : Str} (h : x ≠ y) : (x == y) = false := by simpa using h
/-- the lookups of a block's names -/
theorem relS_local : ∀ {names : List (Str × NameKind)} {sc : Scope} {x : Str}, names.lookup x = some .local → (names.map fun (n, k) => if (k == NameKind.free && sc.kind == .function && sc.names.lookup n == some .cell) then (n, NameKind.cell) else (n, k)).lookup x = some .local
  | [], _, _, h => by simp at h
  | (n, k) :: r, sc, x, h => by
    rw [List.lookup_cons] at h
    rw [List.map_cons]
    by_cases e : x == n
    · rw [e] at h
      simp only at h
      cases h
      simp only [show (NameKind.local == NameKind.free) = false from rfl, Bool.false_and, Bool.false_eq_true, if_false]
      rw [List.lookup_cons, e]
    · have e' : (x == n) = false := by simpa using e
      rw [e'] at h
      have ih := relS_local (sc := sc) (x := x) h
      rw [List.lookup_cons]
      have e1 : (if (k == NameKind.free && sc.kind == .function && sc.names.lookup n == some .cell) = true then (n, NameKind.cell) else (n, k)).1 = n := by split <;> rfl
      show (match x == (if (k == NameKind.free && sc.kind == .function && sc.names.lookup n == some .cell) = true then (n, NameKind.cell) else (n, k)).1 with
        | true => _
        | false => _) = _
      rw [e1, e']
      exact ih
theorem relS_cell : ∀ {names : List (Str × NameKind)} {sc : Scope} {x : Str}, names.lookup x = some .cell → (names.map fun (n, k) => if (k == NameKind.free && sc.kind == .function && sc.names.lookup n == some .cell) then (n, NameKind.cell) else (n, k)).lookup x = some .cell
  | [], _, _, h => by simp at h
  | (n, k) :: r, sc, x, h => by
    rw [List.lookup_cons] at h
    rw [List.map_cons]
    by_cases e : x == n
    · rw [e] at h
      simp only at h
      cases h
      simp only [show (NameKind.cell == NameKind.free) = false from rfl, Bool.false_and, Bool.false_eq_true, if_false]
      rw [List.lookup_cons, e]
    · have e' : (x == n) = false := by simpa using e
      rw [e'] at h
      have ih := relS_cell (sc := sc) (x := x) h
      rw [List.lookup_cons]
      have e1 : (if (k == NameKind.free && sc.kind == .function && sc.names.lookup n == some .cell) = true then (n, NameKind.cell) else (n, k)).1 = n := by split <;> rfl
      show (match x == (if (k == NameKind.free && sc.kind == .function && sc.names.lookup n == some .cell) = true then (n, NameKind.cell) else (n, k)).1 with
        | true => _
        | false => _) = _
      rw [e1, e']
      exact ih
theorem at_blk {X : Cx} {s : Shared} {H : Hp} {osc : Scope} {C : Addr} {cl : List (Str × Addr)} {fp : List Addr} : At (X.blk s H osc (compEnvC osc cl C X.env) fp) osc := ⟨fun x h => by
  unfold isSt at h
  split at h
  · rename_i e
    have q := relS_local (sc := X.env.scope) e
    exact ⟨.inl q, .inr q⟩
  · rename_i e
    have q := relS_cell (sc := X.env.scope) e
    refine ⟨.inr q, .inl ?_⟩
    show (osc.names.lookup x == some NameKind.cell) = true
    rw [e]; rfl
  · cases h⟩
end
end Uq

set_option maxHeartbeats 2000000
/-! Uq, part m: every checked expression runs as its core term says. -/
namespace Uq
open PySem PySem.Spec PyProof.Rows L2
section
variable {cf : Cf} {P : Pg} {k : Nat} {cl : Cl}
theorem false_pe {X : Cx} {W : WX} {e : Expr} {c : C} (h : ∀ S0 LL ρ q E σ H, Rel X.K P S0 LL ρ σ H → ¬ wE cl c ρ q E) : PE X e (tE X.K P cl W c) ∧ PT X e (tT X.K P cl W c) ∧ PW X e (tT X.K P cl W c) :=
  ⟨⟨fun pins s σ H Q I ⟨S0, LL, ρ, q, e, R, hw, _⟩ => absurd hw (h _ _ _ _ _ _ _ R)⟩, ⟨fun pins s σ H Q I ⟨S0, LL, ρ, q, e, R, hw, _⟩ => absurd hw (h _ _ _ _ _ _ _ R)⟩, ⟨fun wh pins s σ H Q I ⟨S0, LL, ρ, q, e, R, hw, _⟩ => absurd hw (h _ _ _ _ _ _ _ R)⟩⟩
theorem no_xc {K : PySem.W.Frag} {S0 : Addr → Prop} {LL : Ow} {ρ : Env} {σ : L2.St} {H : Hp} (xz : P.xa = xa0) (R : Rel K P S0 LL ρ σ H) {i c : Nat} {fs : List D} : ρ[i]? ≠ some (.xc c fs) := fun e => by
  obtain ⟨_, a, dd, vs, _, x, _⟩ := R.slot i _ e
  rw [xz] at x
  exact x.elim
theorem tgNames_map {osc : Scope} {t : Tg} {e : Expr} (h : chkTg cf osc t e = true) : (tgNames t e).map (·.2) = tgI t := by
  have key : ∀ (is : List Nat) (es : List Expr), chkNms cf osc is es = true → ((es.zip is).map fun p => match p.1 with
    | .Name x _ => (x, p.2)
    | _ => (Str.empty, p.2)).map (·.2) = is := fun is => by
    induction is with
    | nil => intro es h; cases es <;> first | rfl | cases h
    | cons i is ih =>
      intro es h
      cases es with
      | nil => cases h
      | cons e es =>
        simp only [chkNms, Bool.and_eq_true] at h
        rw [List.zip_cons_cons, List.map_cons, List.map_cons, ih es h.2]
        congr 1
        split <;> rfl
  unfold chkTg at h
  split at h
  · unfold chkNm at h
    split at h
    · rfl
    · cases h
  · simp only [Bool.and_eq_true] at h
    exact key _ _ h.1.1
  · cases h
theorem okE_hs {e : Expr} (h : okE e = true) {env : PySem.Env} : starEach [e] env = [(false, eval e env)] := okE_star h
/-- walks -/
theorem s_it {X : Cx} {W : WX} (G : Gd X cf P cl k) {sc : Scope} (eS : X.env.scope = sc) {kd : IK} {cs : List C} {it tg : Expr} {t : Tg} {osc : Scope} (ht : chkTg cf osc t tg = true) (hen : enTp kd t = true) {ks : List Expr → Bool}
    (hks : ∀ es, ks es = true → All2 (AEx X P cl W) cs es) (h : mIt sc kd ks it = true) : PI X tg it (tI X.K P cl W kd cs) := by
  unfold mIt at h
  split at h
  · have z := hks _ h
    cases z with
    | cons z zz =>
      cases zz
      exact i_val z.2.1
  · simp only [Bool.and_eq_true, decide_eq_true_eq] at h
    obtain ⟨h1, h2, h3⟩ := h
    rename_i x p as q hne
    have z := hks _ h3
    have hl := args_len z
    cases kd <;> simp only [ikN, Option.some.injEq, Prod.mk.injEq, reduceCtorEq] at h1
    · obtain ⟨rfl, h1⟩ := h1
      match as, h1, z with
      | [a], _, .cons z zz =>
        cases zz
        exact i_rng1 (gl_of h2 eS) (G.b (by decide)) (args_pa (.cons z .nil)) (okE_star z.1)
    · obtain ⟨rfl, h1⟩ := h1
      match as, h1, z with
      | [a, b], _, .cons z (.cons z2 zz) =>
        cases zz
        exact i_rng2 (gl_of h2 eS) (G.b (by decide)) (args_pa (.cons z (.cons z2 .nil))) (by rw [okE_star z.1, okE_star z2.1]; rfl) (okE_star z2.1)
    · obtain ⟨rfl, h1⟩ := h1
      match as, h1, z with
      | [a], _, .cons z zz =>
        cases zz
        cases t with
        | nm i => cases hen
        | tp is =>
          unfold chkTg at ht
          split at ht
          · rename_i e; cases e
          · exact i_enum (gl_of h2 eS) (G.b (by decide)) (args_pa (.cons z .nil)) (okE_star z.1)
          · cases ht
  · cases h
/-- a call of a def with a star -/
theorem s_callv {X : Cx} {W : WX} (G : Gd X cf P cl k) (tk : Takes X W) {sc : Scope} (eS : X.env.scope = sc) {f : Nat} {cs : List C} {e : Expr} {ks : List Expr → Bool} (hks : ∀ es, ks es = true → All2 (AEx X P cl W) cs es)
    (h : mCallV cf sc f cs.length ks e = true) : Run X P cl W (.callv f cs) e := by
  unfold mCallV at h
  split at h
  · rename_i x p as pos
    simp only [Bool.and_eq_true, decide_eq_true_eq, Bool.not_eq_true', decide_eq_false_iff_not] at h
    obtain ⟨h1, h2, h3, h4, h5⟩ := h
    obtain ⟨fa, fd, m1, m2, m3, m4, m5⟩ := G.fv x f h1
    have z := hks _ h5
    refine Run.of ?_ (fun _ => rfl) fun op vs p q => by cases q
    cases z with
    | nil => exact e_callv0 m3 tk G.rm (gl_of h2 eS) m1 m2 m4 m5 (bne_ h3)
    | cons z zz => exact e_callv m3 tk G.rm (gl_of h2 eS) m1 m2 m4 m5 h4 (args_pa (.cons z zz)) (bne_ h3) (okE_star z.1) (args_plain zz)
  · cases h
/-- a call of a def -/
theorem s_call {X : Cx} {W : WX} (G : Gd X cf P cl k) (tk : Takes X W) {sc : Scope} (eS : X.env.scope = sc) {f : Nat} {pm : List Nat} {cs : List C} {e : Expr} {ks : List Expr → Bool} (hks : ∀ es, ks es = true → All2 (AEx X P cl W) cs es)
    (h : mCall cf sc f pm cs.length ks e = true) : Run X P cl W (.call f pm cs) e := by
  unfold mCall at h
  split at h
  · rename_i x p as kws pos
    simp only [Bool.and_eq_true, decide_eq_true_eq, Bool.not_eq_true', decide_eq_false_iff_not] at h
    obtain ⟨h1, h2, h3, h4, h5, h6⟩ := h
    obtain ⟨fa, fd, m1, m2, m3, m4, m5⟩ := G.fn x f h1
    have z := hks _ h4
    refine Run.of ?_ (fun _ => rfl) fun op vs p q => by cases q
    unfold mShape at h6
    split at h6
    · simp only [List.map_nil, List.append_nil] at z
      simp only [decide_eq_true_eq] at h6
      cases z with
      | nil => exact e_call0 m3 tk G.rm (gl_of h2 eS) m1 m2 m4 h6 (bne_ h3)
      | cons z zz => exact e_call m3 tk G.rm (gl_of h2 eS) m1 m2 m4 h6 (args_pa (.cons z zz)) (bne_ h3) (okE_star z.1) (args_plain zz)
    · cases h6
    · rename_i hne1 hne2
      simp only [Bool.and_eq_true, decide_eq_true_eq] at h6
      obtain ⟨rfl, h7⟩ := h6
      have hp : pmOf (cf.prm f) as.length (kwNames kws) ≠ [] := fun e => hne1 e
      obtain ⟨c1, c2, rfl, z1, z2⟩ := args_split as _ z
      cases as with
      | nil =>
        cases z1
        exact e_callK0 m3 tk G.rm (gl_of h2 eS) m1 m2 (m5 _ _ h7) ((args_len z2).trans (by simp [kwNames])) hp (args_pk kws z2) h5 rfl (bne_ h3)
      | cons a as =>
        cases z1 with
        | cons z zz => exact e_callK (e0 := a) m3 tk G.rm (gl_of h2 eS) m1 m2 (m5 _ _ h7) (args_len (.cons z zz)) ((args_len z2).trans (by simp [kwNames])) hp (args_pa (.cons z zz)) (args_pk kws z2) h5 rfl (bne_ h3) (okE_star z.1) (args_plain (.cons z zz))
  · cases h
/-- a built-in -/
theorem s_bi {X : Cx} {W : WX} (G : Gd X cf P cl k) (tk : Takes X W) {sc : Scope} (eS : X.env.scope = sc) {f : Bi} {cs : List C} {e : Expr} {ks : List Expr → Bool} (hks : ∀ es, ks es = true → All2 (AEx X P cl W) cs es)
    (h : mBi sc f cs.length ks e = true) : Run X P cl W (.bi f cs) e := by
  have one : ∀ x, biN f = some x → mBi0 sc f ks e = true → (∃ id, CallR X (.builtin id) (rBi X.K f) ∧ bootBuiltins x = some (.builtin id)) ∨ (∃ T, CallR X (.type T) (rBi X.K f) ∧ bootBuiltins x = some (.type T)) → x ∈ biNames → x ≠ "__name__" → x ≠ "__debug__" → Run X P cl W (.bi f cs) e := by
    intro x hx h hc hmem hn hd
    unfold mBi0 at h
    split at h
    · rename_i x' p as q
      simp only [Bool.and_eq_true, decide_eq_true_eq] at h
      obtain ⟨h1, h2, h3⟩ := h
      rw [hx] at h1
      cases h1
      have z := hks _ h3
      refine Run.of ?_ (fun _ => rfl) fun op vs p q => by cases q
      cases z with
      | nil => exact e_bi0
      | cons z zz =>
        rcases hc with ⟨id, hc, hb⟩ | ⟨T, hc, hb⟩
        · exact e_biB hc (gl_of h2 eS) (G.b hmem) hb (args_pa (.cons z zz)) hn (bne_ hd) (okE_star z.1) (args_plain zz)
        · exact e_biT hc (gl_of h2 eS) (G.b hmem) hb (args_pa (.cons z zz)) hn (bne_ hd) (okE_star z.1) (args_plain zz)
    · cases h
  have hc := G.calm
  have hu := G.hu
  cases f <;> simp only [mBi, Bool.false_eq_true] at h
  · exact one "len" rfl h (.inl ⟨_, bi_len, by decide +kernel⟩) (by decide) (by decide) (by decide)
  · exact one "abs" rfl h (.inl ⟨_, bi_abs, by decide +kernel⟩) (by decide) (by decide) (by decide)
  · exact one "int" rfl h (.inr ⟨_, bi_int, by decide +kernel⟩) (by decide) (by decide) (by decide)
  · exact one "bool" rfl h (.inr ⟨_, bi_bool, by decide +kernel⟩) (by decide) (by decide) (by decide)
  · exact one "max" rfl h (.inl ⟨_, bi_max hc, by decide +kernel⟩) (by decide) (by decide) (by decide)
  · exact one "min" rfl h (.inl ⟨_, bi_min hc, by decide +kernel⟩) (by decide) (by decide) (by decide)
  · simp only [Bool.and_eq_true, decide_eq_true_eq] at h
    obtain ⟨h, hn⟩ := h
    unfold mDef at h
    split at h
    · simp only [Bool.and_eq_true, decide_eq_true_eq] at h
      obtain ⟨rfl, rfl, h3, h4⟩ := h
      have z := hks _ h4
      match cs, hn, z with
      | [_, _], _, .cons z (.cons z2 _) => exact Run.of (e_maxd hc hu (gl_of h3 eS) (G.b (by decide)) z.2.1 z.1 z2.2.1) (fun _ => rfl) fun op vs p q => by cases q
    · cases h
  · exact one "sum" rfl h (.inl ⟨_, bi_sum hc, by decide +kernel⟩) (by decide) (by decide) (by decide)
  · exact one "tuple" rfl h (.inr ⟨_, bi_tuple, by decide +kernel⟩) (by decide) (by decide) (by decide)
  · exact one "list" rfl h (.inr ⟨_, bi_list, by decide +kernel⟩) (by decide) (by decide) (by decide)
  · exact one "sorted" rfl h (.inl ⟨_, bi_sorted hu, by decide +kernel⟩) (by decide) (by decide) (by decide)
  · exact one "any" rfl h (.inl ⟨_, bi_any hc, by decide +kernel⟩) (by decide) (by decide) (by decide)
  · exact one "all" rfl h (.inl ⟨_, bi_all hc, by decide +kernel⟩) (by decide) (by decide) (by decide)
  · unfold mBits at h
    split at h
    · simp only [Bool.and_eq_true, decide_eq_true_eq] at h
      obtain ⟨rfl, h2, h3, h4⟩ := h
      have z := hks _ h2
      cases z with
      | cons z zz =>
        cases zz
        refine Run.of (e_bits z.2.1 ?_ h3) (fun _ => rfl) fun op vs p q => by cases q
        unfold notCall0 at h4
        split at h4
        · cases h4
        · rename_i o _ _ _ hne
          unfold attributeBase
          split
          · rename_i id p2 p3
            exact absurd rfl (hne id p2 p3)
          · rfl
    · cases h
  · simp only [Bool.and_eq_true, decide_eq_true_eq] at h
    obtain ⟨h, hn⟩ := h
    unfold mIn at h
    split at h
    · rename_i x' _ y' _ as p1 p2
      simp only [Bool.and_eq_true, decide_eq_true_eq] at h
      obtain ⟨rfl, rfl, h3, h4, h5⟩ := h
      have z := hks _ h5
      cases z with
      | nil => simp at hn
      | cons z zz =>
        cases zz with
        | cons _ _ => simp at hn
        | nil =>
          refine Run.of ?_ (fun _ => rfl) fun op vs p q => by cases q
          exact e_sset G.calm (by have := G.hu; omega) (gl_of h3 eS) (G.b (by decide)) (gl_of h4 eS) (G.b (by decide)) z.2.1 z.1
    · cases h
  · simp only [Bool.and_eq_true, decide_eq_true_eq] at h
    obtain ⟨h, hn⟩ := h
    unfold mIn at h
    split at h
    · rename_i x' _ y' _ as p1 p2
      simp only [Bool.and_eq_true, decide_eq_true_eq] at h
      obtain ⟨rfl, rfl, h3, h4, h5⟩ := h
      have z := hks _ h5
      match cs, as, z, hn with
      | [c1, c2], [a1, a2], .cons z1 (.cons z2 .nil), _ =>
        refine Run.of ?_ (fun _ => rfl) fun op vs p q => by cases q
        exact e_lrng2 G.calm (gl_of h3 eS) (G.b (by decide)) (gl_of h4 eS) (G.b (by decide)) z1.2.1 z2.2.1 z1.1 z2.1
    · cases h
mutual
theorem sC : ∀ (c : C) {X : Cx} {W : WX} {sc : Scope} {e : Expr}, Gd X cf P cl k → Takes X W → X.env.scope = sc → chkE cf c sc e = true → Run X P cl W c e
  | .var i, X, W, sc, e, G, tk, eS, h => by
    simp only [chkE] at h
    unfold mVar at h
    split at h
    · simp only [Bool.and_eq_true, decide_eq_true_eq, Bool.not_eq_true', decide_eq_false_iff_not] at h
      obtain ⟨⟨⟨h1, h2⟩, h3⟩, h4⟩ := h
      exact Run.of (e_var (by rw [G.eN]; exact h1) (vis_of h2 eS) (bne_ h3) (bne_ h4)) (fun _ => rfl) fun op vs p q => by cases q
    · cases h
  | .non, X, W, sc, e, G, tk, eS, h => by
    simp only [chkE] at h
    unfold mNon at h
    split at h
    · exact Run.of e_non (fun _ => rfl) fun op vs p q => by cases q
    · cases h
  | .bl b, X, W, sc, e, G, tk, eS, h => by
    simp only [chkE] at h
    unfold mBl at h
    split at h
    · obtain rfl := of_decide_eq_true h
      exact Run.of e_bl (fun _ => rfl) fun op vs p q => by cases q
    · cases h
  | .int i, X, W, sc, e, G, tk, eS, h => by
    simp only [chkE] at h
    unfold mInt at h
    split at h
    · obtain rfl := of_decide_eq_true h
      exact Run.of e_int (fun _ => rfl) fun op vs p q => by cases q
    · cases h
  | .str x, X, W, sc, e, G, tk, eS, h => by
    simp only [chkE] at h
    unfold mStr at h
    split at h
    · obtain rfl := of_decide_eq_true h
      exact Run.of e_str (fun _ => rfl) fun op vs p q => by cases q
    · cases h
  | .bin o a b, X, W, sc, e, G, tk, eS, h => by
    simp only [chkE] at h
    unfold mBin at h
    split at h
    · simp only [Bool.and_eq_true] at h
      obtain ⟨h1, h2, h3⟩ := h
      rw [opB_to h1]
      exact Run.of (e_bin (sC a G tk eS h2).pe (sC b G tk eS h3).pe) (fun _ => rfl) fun op vs p q => by cases q
    · cases h
  | .neg a, X, W, sc, e, G, tk, eS, h => by
    simp only [chkE] at h
    unfold mNeg at h
    split at h
    · exact Run.of (e_neg (sC a G tk eS h).pe) (fun _ => rfl) fun op vs p q => by cases q
    · cases h
  | .not a, X, W, sc, e, G, tk, eS, h => by
    simp only [chkE] at h
    unfold mNot at h
    split at h
    · exact Run.of2 (e_not (sC a G tk eS h).pe) (t_not (sC a G tk eS h).pt) fun op vs p q => by cases q
    · cases h
  | .and a b, X, W, sc, e, G, tk, eS, h => by
    simp only [chkE] at h
    unfold mAnd at h
    split at h
    · simp only [Bool.and_eq_true] at h
      obtain ⟨h1, h2⟩ := h
      have ra := sC a G tk eS h1
      rename_i x y r p
      have rb : PE X (.BoolOp .And (y :: r) p) (tE X.K P cl W b) ∧ PW X (.BoolOp .And (y :: r) p) (tT X.K P cl W b) := by
        unfold mRest at h2
        split at h2
        · have rb := sC b G tk eS h2
          exact ⟨pe_one rb.pe, pw_and1 rb.pt⟩
        · have rb := sC b G tk eS h2
          exact ⟨rb.pe, rb.pw _ _ _ rfl⟩
      have w := t_and ra.pt rb.2
      exact ⟨e_and ra.pe rb.1, w.pt, fun op vs p q => by cases q; exact w⟩
    · cases h
  | .or a b, X, W, sc, e, G, tk, eS, h => by
    simp only [chkE] at h
    unfold mOr at h
    split at h
    · simp only [Bool.and_eq_true] at h
      obtain ⟨h1, h2⟩ := h
      have ra := sC a G tk eS h1
      rename_i x y r p
      have rb : PE X (.BoolOp .Or (y :: r) p) (tE X.K P cl W b) ∧ PW X (.BoolOp .Or (y :: r) p) (tT X.K P cl W b) := by
        unfold mRest at h2
        split at h2
        · have rb := sC b G tk eS h2
          exact ⟨pe_one rb.pe, pw_or1 rb.pt⟩
        · have rb := sC b G tk eS h2
          exact ⟨rb.pe, rb.pw _ _ _ rfl⟩
      have w := t_or ra.pt rb.2
      exact ⟨e_or ra.pe rb.1, w.pt, fun op vs p q => by cases q; exact w⟩
    · cases h
  | .cmp o a b, X, W, sc, e, G, tk, eS, h => by
    simp only [chkE] at h
    unfold mCmp at h
    split at h
    · simp only [Bool.and_eq_true] at h
      obtain ⟨h1, h2, h3⟩ := h
      rw [opC_to h1]
      have hu : X.A.units + 64 < cLine := by have := G.hu; omega
      exact Run.of2 (e_cmp hu (sC a G tk eS h2).pe (sC b G tk eS h3).pe) (t_cmp hu (sC a G tk eS h2).pe (sC b G tk eS h3).pe) fun op vs p q => by cases q
    · cases h
  | .chn o o2 a b c, X, W, sc, e, G, tk, eS, h => by
    simp only [chkE] at h
    unfold mChn at h
    split at h
    · simp only [Bool.and_eq_true] at h
      obtain ⟨h1, h2, h3, h4, h5, h6⟩ := h
      rw [opC_to h1, opC_to h2]
      have hu : X.A.units + 64 < cLine := by have := G.hu; omega
      exact Run.of2 (e_chn hu (sC a G tk eS h3).pe (sC b G tk eS h4).pe (sC c G tk eS h5).pe (okE_marks h6)) (t_chn hu (sC a G tk eS h3).pe (sC b G tk eS h4).pe (sC c G tk eS h5).pe (okE_marks h6)) fun op vs p q => by cases q
    · cases h
  | .isN n a, X, W, sc, e, G, tk, eS, h => by
    simp only [chkE] at h
    unfold mIsN at h
    split at h
    · simp only [Bool.and_eq_true] at h
      obtain ⟨h1, h2⟩ := h
      have ra := (sC a G tk eS h2).pe
      rename_i o j p1 p2
      have eo : o = if n = true then .IsNot else .Is := by
        unfold isOp at h1
        split at h1 <;> first | (cases n <;> first | rfl | cases h1) | cases h1
      rw [eo]
      exact Run.of2 (e_isN ra) (t_isN ra) fun op vs p q => by cases q
    · cases h
  | .isB n b a, X, W, sc, e, G, tk, eS, h => by
    simp only [chkE] at h
    unfold mIsB at h
    split at h
    · simp only [Bool.and_eq_true, decide_eq_true_eq] at h
      obtain ⟨rfl, h1, h2⟩ := h
      have ra := (sC a G tk eS h2).pe
      rename_i o j p1 p2
      have eo : o = if n = true then .IsNot else .Is := by
        unfold isOp at h1
        split at h1 <;> first | (cases n <;> first | rfl | cases h1) | cases h1
      rw [eo]
      exact Run.of2 (e_isB ra) (t_isB ra) fun op vs p q => by cases q
    · cases h
  | .mem n a b, X, W, sc, e, G, tk, eS, h => by
    simp only [chkE] at h
    unfold mMem at h
    split at h
    · simp only [Bool.and_eq_true] at h
      obtain ⟨h1, h2, h3, h4⟩ := h
      have hu : X.A.units + 66 < cLine := by have := G.hu; omega
      rename_i a' o b' p1
      have eo : o = if n = true then .NotIn else .In := by
        unfold inOp at h1
        split at h1 <;> first | (cases n <;> first | rfl | cases h1) | cases h1
      rw [eo]
      exact Run.of2 (e_mem hu (sC a G tk eS h2).pe (sC b G tk eS h3).pe (okE_marks h4)) (t_mem hu (sC a G tk eS h2).pe (sC b G tk eS h3).pe (okE_marks h4)) fun op vs p q => by cases q
    · cases h
  | .ite c a b, X, W, sc, e, G, tk, eS, h => by
    simp only [chkE] at h
    unfold mIte at h
    split at h
    · simp only [Bool.and_eq_true] at h
      obtain ⟨h1, h2, h3⟩ := h
      exact Run.of2 (e_ite (sC c G tk eS h1).pt (sC a G tk eS h2).pe (sC b G tk eS h3).pe) (t_ite (sC c G tk eS h1).pt (sC a G tk eS h2).pt (sC b G tk eS h3).pt) fun op vs p q => by cases q
    · cases h
  | .tup cs, X, W, sc, e, G, tk, eS, h => by
    simp only [chkE] at h
    unfold mTup at h
    split at h
    · simp only [Bool.and_eq_true, decide_eq_true_eq] at h
      exact Run.of (e_tup h.2 (args_pa (sCs cs G tk eS h.1))) (fun _ => rfl) fun op vs p q => by cases q
    · cases h
  | .lst cs, X, W, sc, e, G, tk, eS, h => by
    simp only [chkE] at h
    unfold mLst at h
    split at h
    · simp only [Bool.and_eq_true, decide_eq_true_eq] at h
      exact Run.of (e_lst h.2 (args_pa (sCs cs G tk eS h.1))) (fun _ => rfl) fun op vs p q => by cases q
    · cases h
  | .ix a b, X, W, sc, e, G, tk, eS, h => by
    simp only [chkE] at h
    unfold mIx at h
    split at h
    · simp only [Bool.and_eq_true] at h
      obtain ⟨h1, h2, h3⟩ := h
      exact Run.of (e_ix (sC a G tk eS h2).pe (sC b G tk eS h3).pe (okE_ix h1)) (fun _ => rfl) fun op vs p q => by cases q
    · cases h
  | .sl a b c, X, W, sc, e, G, tk, eS, h => by
    simp only [chkE] at h
    unfold mSl at h
    split at h
    · simp only [Bool.and_eq_true] at h
      obtain ⟨h1, h2, h3⟩ := h
      rename_i a' lo hi p2 p3
      have o1 : PO X lo (tO X.K P cl W b) := by
        unfold mOpt at h2
        split at h2
        · exact o_none h2
        · simp only [Bool.and_eq_true, Bool.not_eq_true'] at h2
          exact o_some h2.2 (sC b G tk eS h2.1).pe
      have o2 : PO X hi (tO X.K P cl W c) := by
        unfold mOpt at h3
        split at h3
        · exact o_none h3
        · simp only [Bool.and_eq_true, Bool.not_eq_true'] at h3
          exact o_some h3.2 (sC c G tk eS h3.1).pe
      exact Run.of (e_sl (sC a G tk eS h1).pe o1 o2) (fun _ => rfl) fun op vs p q => by cases q
    · cases h
  | .rev a, X, W, sc, e, G, tk, eS, h => by
    simp only [chkE] at h
    unfold mRev at h
    split at h
    · exact Run.of (e_back (sC a G tk eS h).pe) (fun _ => rfl) fun op vs p q => by cases q
    · cases h
  | .call f pm cs, X, W, sc, e, G, tk, eS, h => s_call G tk eS (fun es h => sCs cs G tk eS h) (by simpa only [chkE] using h)
  | .callv f cs, X, W, sc, e, G, tk, eS, h => s_callv G tk eS (fun es h => sCs cs G tk eS h) (by simpa only [chkE] using h)
  | .bi f cs, X, W, sc, e, G, tk, eS, h => s_bi G tk eS (fun es h => sCs cs G tk eS h) (by simpa only [chkE] using h)
  | .isi a ts, X, W, sc, e, G, tk, eS, h => by
    simp only [chkE] at h
    unfold mIsi at h
    split at h
    · simp only [Bool.and_eq_true, decide_eq_true_eq] at h
      obtain ⟨rfl, h2, h3, h4, h5⟩ := h
      have ra := (sC a G tk eS h4).pe
      have F : ∀ (t : Ty), isG sc (tyN t) = true → TyFree X t := fun t hg => ⟨gl_of hg eS, G.b (by cases t <;> decide)⟩
      refine Run.of ?_ (fun _ => rfl) fun op vs p q => by cases q
      unfold mTys at h5
      split at h5
      · simp only [Bool.and_eq_true, decide_eq_true_eq] at h5
        obtain ⟨rfl, h6⟩ := h5
        exact e_isi1 (gl_of h2 eS) (G.b (by decide)) (F _ h6) ra h3
      · simp only [Bool.and_eq_true, decide_eq_true_eq] at h5
        obtain ⟨h6, h7⟩ := h5
        have all : ∀ (ts : List Ty) (es : List Expr), chkTys sc ts es = true → ∀ t ∈ ts, TyFree X t := fun ts => by
          induction ts with
          | nil => intro es _ t ht; cases ht
          | cons t ts ih =>
            intro es h t' ht
            cases es with
            | nil => cases h
            | cons e es =>
              simp only [chkTys, Bool.and_eq_true] at h
              rcases List.mem_cons.mp ht with rfl | ht
              · exact F _ h.1.2
              · exact ih es h.2 t' ht
        exact e_isiT (gl_of h2 eS) (G.b (by decide)) (all _ _ h6) h7 (by rw [eS]; exact h6) ra h3
      · cases h5
    · cases h
  | .lc e0 t kd cs cd, X, W, sc, e, G, tk, eS, h => by
    simp only [chkE] at h
    unfold mLc at h
    split at h
    · simp only [Bool.and_eq_true, decide_eq_true_eq] at h
      obtain ⟨h0, h1, h2, h3, h4, h5, h6, h7, h8⟩ := h
      rename_i e' tg it ifs ia osc pos
      subst h0
      refine Run.of (peI ?_ fun σ H Q z => lc_read z) (fun _ => rfl) fun op vs p q => by cases q
      have em := tgNames_map h3
      rw [← em]
      refine pe_lc G.calm G.nd (s_it (t := t) (osc := osc) G eS h3 h1 (fun es h => sCs cs G tk eS h) h7) (blkOk_by (by rw [G.eN, eS]; exact h4)) (fun s H C cl' fp => ?_) (fun s H C cl' fp => ?_) (fun s H C cl' fp => ?_) (okE_fold h8)
      · exact pg_tg (cf := cf) G.calm G.nd G.eN at_blk h3
      · have z := sCs cd (G.blk s H osc (compEnvC osc cl' C X.env) fp) takes0 (show _ = relS osc sc by rw [← eS]; rfl) h5
        cases z with
        | nil => exact ts_nil
        | cons z zz =>
          cases zz with
          | cons _ _ => simp at h6
          | nil => exact ts_one z.2.2
      · exact (sC e0 (G.blk s H osc (compEnvC osc cl' C X.env) fp) takes0 (show _ = relS osc sc by rw [← eS]; rfl) h2).pe
    · cases h
  | .xf i f, X, W, sc, e, G, tk, eS, h => by
    obtain ⟨h1, h2, h3⟩ := false_pe (X := X) (P := P) (cl := cl) (W := W) (e := e) (c := .xf i f) fun S0 LL ρ q E σ H R hw => by
      unfold wE at hw
      split at hw
      · rename_i z; exact no_xc G.xa R z
      · exact hw
    exact ⟨h1, h2, fun _ _ _ _ => h3⟩
  | .xis i c, X, W, sc, e, G, tk, eS, h => by
    obtain ⟨h1, h2, h3⟩ := false_pe (X := X) (P := P) (cl := cl) (W := W) (e := e) (c := .xis i c) fun S0 LL ρ q E σ H R hw => by
      unfold wE at hw
      split at hw
      · rename_i z; exact no_xc G.xa R z
      · exact hw
    exact ⟨h1, h2, fun _ _ _ _ => h3⟩
theorem sCs : ∀ (cs : List C) {X : Cx} {W : WX} {sc : Scope} {es : List Expr}, Gd X cf P cl k → Takes X W → X.env.scope = sc → chkEs cf cs sc es = true → All2 (AEx X P cl W) cs es
  | [], X, W, sc, es, G, tk, eS, h => by
    simp only [chkEs] at h
    cases es with
    | nil => exact .nil
    | cons _ _ => cases h
  | c :: cs, X, W, sc, es, G, tk, eS, h => by
    simp only [chkEs] at h
    unfold mCons at h
    split at h
    · simp only [Bool.and_eq_true] at h
      exact .cons ⟨h.2.1, (sC c G tk eS h.1).pe, (sC c G tk eS h.1).pt⟩ (sCs cs G tk eS h.2.2)
    · cases h
end
end
end Uq

set_option maxHeartbeats 1000000
/-! Uq, part n: statements' readings. -/
namespace Uq
open PySem PySem.Spec PyProof.Rows L2
/-- what is wanted behind a statement, as the core's K says -/
structure EdOk (Kf : PySem.W.Frag) (P : Pg) (W : WX) (S0 : Addr → Prop) (LL : Ow) (H : Hp) (k : K) (D : Ends) : Prop where
  nx : ∀ LL' ρ' σ' H', Rel Kf P S0 LL' ρ' σ' H' → Fm LL H LL' H' → k.nx ρ' → D.nx σ' H'
  rt : ∀ d v LL' H', Rp Kf S0 H' d v → Fm LL H LL' H' → k.rt d → D.rt v H'
  bk : ∀ LL' ρ' σ' H', Rel Kf P S0 LL' ρ' σ' H' → Fm LL H LL' H' → k.bk ρ' → D.bk σ' H'
  ct : ∀ LL' ρ' σ' H', Rel Kf P S0 LL' ρ' σ' H' → Fm LL H LL' H' → k.ct ρ' → D.ct σ' H'
  ex : ∀ c fs cv dx LL' ρ' σ' H', Rel Kf P S0 LL' ρ' σ' H' → Fm LL H LL' H' → XRp Kf P H' c fs cv dx → k.ex c fs ρ' → W cv dx σ' H'
theorem EdOk.from {Kf : PySem.W.Frag} {P : Pg} {W : WX} {S0 : Addr → Prop} {LL LL1 : Ow} {H H1 : Hp} {k : K} {D : Ends} (f : Fm LL H LL1 H1) (h : EdOk Kf P W S0 LL H k D) : EdOk Kf P W S0 LL1 H1 k D :=
  ⟨fun _ _ _ _ R g q => h.nx _ _ _ _ R (f.trans g) q, fun _ _ _ _ R g q => h.rt _ _ _ _ R (f.trans g) q, fun _ _ _ _ R g q => h.bk _ _ _ _ R (f.trans g) q, fun _ _ _ _ R g q => h.ct _ _ _ _ R (f.trans g) q,
    fun _ _ _ _ _ _ _ _ R g x q => h.ex _ _ _ _ _ _ _ _ R (f.trans g) x q⟩
section
variable (Kf : PySem.W.Frag) (P : Pg) (cl : Cl) (W : WX)
def tS (s : S) : TS := fun D σ H => ∃ S0 LL ρ k, Rel Kf P S0 LL ρ σ H ∧ wS cl s ρ k ∧ EdOk Kf P W S0 LL H k D
def tSs (ss : List S) : TS := fun D σ H => ∃ S0 LL ρ k, Rel Kf P S0 LL ρ σ H ∧ wSs cl ss ρ k ∧ EdOk Kf P W S0 LL H k D
end
section
variable {X : Cx} {P : Pg} {cl : Cl} {W : WX} {e' : Expr} {e : C} {pos : Pos} {st : Stmt} {sts : List Stmt} {s : S} {ss : List S}
theorem psI {t t' : TS} (h : PS X st t) (i : ∀ D σ H, t' D σ H → t D σ H) : PS X st t' := ⟨fun pins s σ H D I q => h.run pins s σ H D I (i D σ H q)⟩
theorem pssI {t t' : TS} (h : PSs X sts t) (i : ∀ D σ H, t' D σ H → t D σ H) : PSs X sts t' := ⟨fun pins s σ H D I q => h.run pins s σ H D I (i D σ H q)⟩
/-! ### blocks -/
theorem ss_nil : PSs X [] (tSs X.K P cl W []) := pssI pss_nil fun D σ H ⟨S0, LL, ρ, k, R, hw, hk⟩ => hk.nx _ _ _ _ R Fm.refl hw
theorem ss_cons (h : PS X st (tS X.K P cl W s)) (hs : PSs X sts (tSs X.K P cl W ss)) : PSs X (st :: sts) (tSs X.K P cl W (s :: ss)) :=
  pssI (pss_cons h hs) fun D σ H ⟨S0, LL, ρ, k, R, hw, hk⟩ => ⟨S0, LL, ρ, _, R, hw, ⟨fun LL' ρ' σ' H' R' f q => ⟨S0, LL', ρ', k, R', q, hk.from f⟩, hk.rt, hk.bk, hk.ct, hk.ex⟩⟩
theorem ss_kil {is : List Nat} (hs : PSs X sts (tSs X.K P cl W ss)) : PSs X sts (tSs X.K P cl W (.kil is :: ss)) :=
  pssI hs fun D σ H ⟨S0, LL, ρ, k, R, hw, hk⟩ => ⟨S0, _, kil is ρ, k, R.kil is rfl fun _ _ => rfl, hw, hk.from Fm.frz⟩
theorem s_pas : PS X (.Pass pos) (tS X.K P cl W .pas) := psI ps_pass fun D σ H ⟨S0, LL, ρ, k, R, hw, hk⟩ => hk.nx _ _ _ _ R Fm.refl hw
theorem s_brk : PS X (.Break pos) (tS X.K P cl W .brk) := psI ps_break fun D σ H ⟨S0, LL, ρ, k, R, hw, hk⟩ => hk.bk _ _ _ _ R Fm.refl hw
theorem s_cnt : PS X (.Continue pos) (tS X.K P cl W .cnt) := psI ps_continue fun D σ H ⟨S0, LL, ρ, k, R, hw, hk⟩ => hk.ct _ _ _ _ R Fm.refl hw
theorem exE {Kf : PySem.W.Frag} {S0 : Addr → Prop} {LL : Ow} {ρ : Env} {σ : L2.St} {H : Hp} {k : K} {D : Ends} (R : Rel Kf P S0 LL ρ σ H) (hk : EdOk Kf P W S0 LL H k D) : ∀ c fs cv dx H', Same H H' → XRp Kf P H' c fs cv dx → k.ex c fs ρ → W cv dx σ H' :=
  fun c fs cv dx H' s x q => hk.ex c fs cv dx LL ρ σ H' (R.same s) (Fm.of_same s) x q
theorem s_exp (he : PE X e' (tE X.K P cl W e)) (hs : swapsWith e' none pos.line X.env = pure false) : PS X (.Expr e' pos) (tS X.K P cl W (.exp e)) :=
  psI (ps_expr he hs) fun D σ H ⟨S0, LL, ρ, k, R, hw, hk⟩ => ⟨S0, LL, ρ, _, _, R, hw, fun d v H' s r q => hk.nx _ _ _ _ (R.same s) (Fm.of_same s) q, exE R hk⟩
theorem s_ret (he : PE X e' (tE X.K P cl W e)) : PS X (.Return (some e') pos) (tS X.K P cl W (.ret e)) :=
  psI (ps_ret he) fun D σ H ⟨S0, LL, ρ, k, R, hw, hk⟩ => ⟨S0, LL, ρ, _, _, R, hw, fun d v H' s r q => hk.rt d v LL H' (r.1.wide fun _ _ _ z => z.1) (Fm.of_same s) q, exE R hk⟩
theorem s_retN : PS X (.Return none pos) (tS X.K P cl W .retN) := psI ps_retN fun D σ H ⟨S0, LL, ρ, k, R, hw, hk⟩ => hk.rt .none .non LL H (by simp only [Rp]) Fm.refl hw
theorem s_ite {c : C} {c' : Expr} {a b : List S} {a' b' : List Stmt} (hc : PT X c' (tT X.K P cl W c)) (ha : PSs X a' (tSs X.K P cl W a)) (hb : PSs X b' (tSs X.K P cl W b)) : PS X (.If c' a' b' pos) (tS X.K P cl W (.ite c a b)) := by
  refine psI (ps_if hc ha hb) fun D σ H ⟨S0, LL, ρ, k, R, hw, hk⟩ => ⟨S0, LL, ρ, _, _, R, hw, fun d H' s h => truR_mono h fun t ht => ?_, exE R hk⟩
  cases t with
  | true => exact ⟨S0, LL, ρ, k, R.same s, ht, hk.from (Fm.of_same s)⟩
  | false => exact ⟨S0, LL, ρ, k, R.same s, ht, hk.from (Fm.of_same s)⟩
/-! ### stores -/
theorem noLs_list {ds : List D} (h : noLs ds = true) : ∀ {K : PySem.W.Frag} {S S' : Addr → Prop} {H : Hp} {vs : List V}, Rps K S H ds vs → Rps K S' H ds vs := fun r => Rps.noL _ _ h r
/-- what a value shares is no slot's own from here on -/
theorem shr_rel {Kf : PySem.W.Frag} {S0 : Addr → Prop} {LL : Ow} {ρ : Env} {σ : L2.St} {H H' : Hp} {d : D} {v : V} (R : Rel Kf P S0 LL ρ σ H) (s : Same H H') (r : Res Kf (NmS S0 LL (nms e)) H H' (fresh e) d v) :
    ∃ LL1, Rel Kf P S0 LL1 (shr e d ρ) σ H ∧ Fm LL H LL1 H ∧ Rp Kf (SS S0 LL1) H' d v ∧ (fresh e = true → ∀ ds, d = .list ds → ∃ a vs, v = .ref a ∧ H a = none ∧ H' a = some (.lst vs) ∧ Rps Kf (fun b => SS S0 LL1 b ∧ b ≠ a) H' ds vs) := by
  have caseF : ∃ LL1, Rel Kf P S0 LL1 (frzL (nms e) ρ) σ H ∧ Fm LL H LL1 H ∧ Rp Kf (SS S0 LL1) H' d v ∧ (fresh e = true → ∀ ds, d = .list ds → ∃ a vs, v = .ref a ∧ H a = none ∧ H' a = some (.lst vs) ∧ Rps Kf (fun b => SS S0 LL1 b ∧ b ≠ a) H' ds vs) :=
    ⟨_, R.frzL _, Fm.frz, r.1.wide fun _ _ _ z => z.frz, fun f ds ed => let ⟨a, vs, e1, e2, e3, e4⟩ := r.2 f ds ed; ⟨a, vs, e1, e2, e3, e4.wide fun _ _ _ z => ⟨z.1.frz, z.2⟩⟩⟩
  unfold shr
  split
  · rename_i ds ef
    split
    · rename_i hn
      obtain ⟨a, vs, e1, e2, e3, e4⟩ := r.2 ef ds rfl
      have na : ∀ j, a ∉ LL j := fun j hj => by
        obtain ⟨_, xs, z⟩ := R.own j a hj
        rw [e2] at z; cases z
      refine ⟨LL, R, Fm.refl, ?_, fun _ ds' ed => ?_⟩
      · simp only [Rp]
        exact ⟨a, vs, e1, ⟨R.fr a e2, na⟩, e3, noLs_list hn e4⟩
      · cases ed
        exact ⟨a, vs, e1, e2, e3, noLs_list hn e4⟩
    · exact caseF
  · rename_i hx
    split
    · rename_i hn
      exact ⟨LL, R, Fm.refl, Rp.noL _ _ hn r.1, fun f ds ed => absurd ed (hx ds f)⟩
    · exact caseF
/-- name = value -/
theorem asg_read {Kf : PySem.W.Frag} {S0 : Addr → Prop} {LL : Ow} {ρ : Env} {σ : L2.St} {H H' : Hp} {d : D} {v : V} {i : Nat} (R : Rel Kf P S0 LL ρ σ H) (s : Same H H') (r : Res Kf (NmS S0 LL (nms e)) H H' (fresh e) d v) :
    ∃ LL', Rel Kf P S0 LL' (asgn e i d ρ) (σ.set i (some v)) H' ∧ Fm LL H LL' H' := by
  obtain ⟨LL1, R1, f1, r1, hf⟩ := shr_rel R s r
  unfold asgn
  split
  · rename_i ds ef
    obtain ⟨a, vs, rfl, e2, e3, e4⟩ := hf ef ds rfl
    exact ⟨_, R1.setOl s i e2 e3 e4, f1.trans (Fm.more s e2)⟩
  · exact ⟨_, (R1.same s).setVa i r1, (f1.trans (Fm.of_same s)).trans Fm.less⟩
theorem s_asg {i : Nat} {x : Str} {p : Pos} (hN : X.N.Nodup) (hi : X.N[i]? = some x) (hx : Loc X.env.scope x) (hf : X.fn x = true ∨ X.env.scope.names.lookup x = some .local) (he : PE X e' (tE X.K P cl W e)) (hs : swapsWith e' (some (.Name x p)) pos.line X.env = pure false) :
    PS X (.Assign [.Name x p] e' pos) (tS X.K P cl W (.asg i e)) :=
  psI (ps_set hN hi hx he hs hf) fun D σ H ⟨S0, LL, ρ, k, R, hw, hk⟩ => ⟨S0, LL, ρ, _, _, R, hw, fun d v H' s r q => let ⟨LL', R', f⟩ := asg_read R s r; hk.nx _ _ _ _ R' f q, exE R hk⟩
/-- a, .. = value -/
theorem s_unp {is : List Nat} {tg : Expr} (he : PE X e' (tE X.K P cl W e)) (hg : PG X tg (gTg X.K (.tp is))) (hs : swapsWithSole [tg] e' pos.line X.env = pure false) (hw : swappedStores [tg] e' X.env = pure none) (h1 : (assignEach [tg] X.env).map (·.2) = [assign tg X.env]) :
    PS X (.Assign [tg] e' pos) (tS X.K P cl W (.unp is e)) := by
  refine psI (ps_asg he hg hs hw h1) fun D σ H ⟨S0, LL, ρ, k, R, hw, hk⟩ => ⟨S0, LL, ρ, _, _, R, hw, fun d v H' s r q => ?_, exE R hk⟩
  obtain ⟨LL1, R1, f1, r1, hf⟩ := shr_rel R s r
  have q' : tgR (.tp is) d (shr e d ρ) k.nx := by
    cases d <;> first | exact q | exact q.elim
  exact tg_read (t := .tp is) (R1.same s) r1 q' fun LL' ρ' σ' S hρ => hk.nx _ _ _ _ S.rel ((f1.trans (Fm.of_same s)).trans S.fm) hρ
/-- a, b = x, y -/
theorem s_par {i j : Nat} {x y : Str} {a b : C} {a' b' : Expr} {px py pt : Pos} {kt k2 pt2} (hc : X.calm = true) (hN : X.N.Nodup) (hi : X.N[i]? = some x) (hj : X.N[j]? = some y) (hij : i ≠ j)
    (hx : X.env.scope.names.lookup x = some .local) (hy : X.env.scope.names.lookup y = some .local) (ha : PA X [a', b'] (tEsL X.K P cl W [a, b]))
    (hw : swappedStores [.Tuple [.Name x px, .Name y py] kt pt] (.Tuple [a', b'] k2 pt2) X.env = pure (some [x, y])) :
    PS X (.Assign [.Tuple [.Name x px, .Name y py] kt pt] (.Tuple [a', b'] k2 pt2) pos) (tS X.K P cl W (.par i j a b)) := by
  refine psI (ps_par hc hN hi hj hij hx hy ha hw) fun D σ H ⟨S0, LL, ρ, k, R, hw, hk⟩ => ⟨S0, LL, ρ, fun ds => ∃ x y, ds = [x, y] ∧ k.nx (((frzL (nms a ++ nms b) ρ).set i (.va x)).set j (.va y)), _, R, ?_, fun ds vs H1 s1 r1 l1 h1 => ?_, exE R hk⟩
  · have e1 : (fun (x : Uq.D) => wEs cl [b] ρ (fun vs => ∃ x' y, x :: vs = [x', y] ∧ k.nx (((frzL (nms a ++ nms b) ρ).set i (.va x')).set j (.va y))) fun c fs => k.ex c fs ρ) =
        fun x => wE cl b ρ (fun y => k.nx (((frzL (nms a ++ nms b) ρ).set i (.va x)).set j (.va y))) fun c fs => k.ex c fs ρ := by
      funext x
      show wE cl b ρ (fun y => ∃ x' y', x :: [y] = [x', y'] ∧ _) _ = _
      congr 1
      funext y
      apply propext
      constructor
      · rintro ⟨x', y', ee, q⟩
        cases ee
        exact q
      · exact fun q => ⟨x, y, rfl, q⟩
    show wE cl a ρ _ _
    rw [e1]
    exact hw
  · obtain ⟨x, y, rfl, q⟩ := h1
    obtain ⟨v, w, rfl, h1, h2⟩ := r1.two_
    refine ⟨v, w, rfl, ?_⟩
    have en : nmsL [a, b] = nms a ++ nms b := by show nms a ++ (nms b ++ []) = _; rw [List.append_nil]
    rw [en] at h1 h2
    have R1 := (R.same s1).frzL (nms a ++ nms b)
    have R2 := R1.setVa i (h1.wide fun _ _ _ z => z.frz)
    have R3 := R2.setVa j ((h2.wide fun _ _ _ z => z.frz).wide fun _ _ _ z => z.less)
    exact hk.nx _ _ _ _ R3 (((Fm.of_same s1).trans Fm.frz).trans (Fm.less.trans Fm.less)) q
end
end Uq

set_option maxHeartbeats 1000000
/-! Uq, part o: lists that change; loops. -/
namespace Uq
open PySem PySem.Spec PyProof.Rows L2
theorem par_sw {x y : Str} {px py pt pt2 : Pos} {kt k2 : Nat} {a b : Expr} {env : PySem.Env} (hk : env.scope.kind = .function) (hx : env.scope.names.lookup x = some .local) (hy : env.scope.names.lookup y = some .local) (hxy : x ≠ y) (ha : okE a = true) (hb : okE b = true)
    (h : parSw px py a b = true) : swappedStores [.Tuple [.Name x px, .Name y py] kt pt] (.Tuple [a, b] k2 pt2) env = pure (some [x, y]) := by
  unfold parSw at h
  simp only [Bool.and_eq_true, Bool.or_eq_true, Bool.not_eq_true'] at h
  obtain ⟨h1, h2, h3⟩ := h
  have e1 : (List.all [a, b] fun e => foldedForSure 8 e) = false := by
    simp only [List.all_cons, List.all_nil, Bool.and_true]
    rcases h2 with z | z <;> rw [z] <;> simp
  have e2 : (List.all [a, b] fun e => constantsAlone 8 e) = false := by
    simp only [List.all_cons, List.all_nil, Bool.and_true]
    rcases h3 with z | z <;> rw [z] <;> simp
  have any2 : ∀ f : Expr → Bool, f a = false → f b = false → List.any [a, b] f = false := fun f z1 z2 => by simp [z1, z2]
  have bk : env.blockKind = .function := by unfold Env.blockKind; rw [hk]; rfl
  have kx : env.kindOf x = some .local := hx
  have ky : env.kindOf y = some .local := hy
  have l1 : (py.line == px.line) = true := by
    rw [beq_iff_eq] at h1 ⊢
    exact h1.symm
  have ed : ([x, y] : List Str).eraseDups = [x, y] := by
    have : (x == y) = false := by simpa using hxy
    simp [List.eraseDups_cons, this, Ne.symm hxy]
  unfold swappedStores
  dsimp only
  rw [any2 _ (by cases a <;> first | rfl | cases ha) (by cases b <;> first | rfl | cases hb)]
  simp only [List.length_cons, List.length_nil, bk, List.filterMap_cons, List.filterMap_nil, kx, ky, Expr.pos, List.head?_cons, Option.map_some, Option.getD_some, e1, e2, ed, beq_self_eq_true, l1, Bool.and_self, if_true]
  rfl
section
variable {X : Cx} {P : Pg} {cl : Cl} {W : WX} {e' a' : Expr} {e a : C} {pos p apos cpos : Pos} {x : Str} {i j : Nat}
/-- the list that the slot holds alone -/
theorem own_at {Kf : PySem.W.Frag} {S0 : Addr → Prop} {LL : Ow} {ρ : Env} {σ : L2.St} {H : Hp} (R : Rel Kf P S0 LL ρ σ H) {ds : List D} (e : ρ[i]? = some (.ol ds)) : ∃ (a : Addr) (xs : List V), σ[i]? = some (some (V.ref a)) ∧ H a = some (.lst xs) := by
  obtain ⟨a, xs, h1, h2, _⟩ := R.chg (ds' := ds) i e
  exact ⟨a, xs, h1, h2⟩
theorem not_tup {e : Expr} (h : notTup e = true) : plainV e = true := by
  cases e <;> first | rfl | cases h
theorem sw_plain {e : Expr} {t : Expr} {l : Nat} {env : PySem.Env} (h : plainV e = true) : swapsWith e (some t) l env = pure false := by
  cases e <;> first | rfl | cases h
theorem sw_none {e : Expr} {l : Nat} {env : PySem.Env} (h : plainV e = true) : swapsWith e none l env = pure false := by
  cases e <;> first | rfl | cases h
theorem ss_none {e t : Expr} {env : PySem.Env} (h : notTup e = true) : swappedStores [t] e env = pure none := by
  cases e <;> first | (cases t <;> rfl) | cases h
/-- x[a] = e -/
theorem s_put {o' : Expr} {p2 : Pos} (hi : X.N[i]? = some x) (hv : Vis X.env.scope x) (hd : (x == ("__debug__" : Str)) = false) (hcd : (x == ("__classdict__" : Str)) = false) (ha : PE X a' (tE X.K P cl W a)) (he : PE X e' (tE X.K P cl W e)) (hp : notTup e' = true) (hm : okE a' = true) :
    PS X (.Assign [.Subscript (.Name x p) a' p2] e' pos) (tS X.K P cl W (.put i a e)) := by
  refine psI (ps_asg he (pg_sub (pe_var hi hv hd hcd) ha set_list (fun v => by cases a' <;> first | rfl | cases hm)) (by cases e' <;> first | rfl | cases hp) (ss_none hp) rfl) fun D σ H ⟨S0, LL, ρ, k, R, hw, hk⟩ => ⟨S0, LL, ρ, _, _, R, hw, fun d v H1 s1 r1 q => ?_, exE R hk⟩
  obtain ⟨LL1, R1, f1, r1', _⟩ := shr_rel R s1 r1
  have R1' := R1.same s1
  have F1 : Fm LL H LL1 H1 := f1.trans (Fm.of_same s1)
  cases eo : (shr e d ρ)[i]? with
  | none => rw [eo] at q; exact q.elim
  | some sl =>
    rw [eo] at q
    cases sl <;> first | exact q.elim | skip
    rename_i ds
    obtain ⟨l, xs, h1, h2⟩ := own_at R1' eo
    refine ⟨_, h1, S0, LL1, _, _, _, R1', q, fun y w H2 s2 r2 q2 => ?_, fun c fs cv dx H' s x q => hk.ex c fs cv dx LL1 _ σ H' (R1'.same s) (F1.trans (Fm.of_same s)) x q⟩
    cases y <;> first | exact q2.elim | skip
    obtain ⟨n, hn, q3⟩ := q2
    have ew := r2.1.int_
    subst ew
    have R2 := R1'.same s2
    obtain ⟨l', xs', g1, g2, g3, g4⟩ := R2.chg (ds' := ds.set n d) i eo
    rw [h1] at g1
    cases g1
    obtain ⟨R3, F3⟩ := g4 (xs'.set n v) H2 (Same.refl _) (g3.set n (r1'.same s2))
    refine ⟨l, xs', _, n, rfl, rfl, g2, by rw [← g3.length]; exact hn, ?_⟩
    exact hk.nx _ _ _ _ R3 ((F1.trans (Fm.of_same s2)).trans F3) q3
/-- what a change of an own list comes to -/
theorem chg_read {Kf : PySem.W.Frag} {S0 : Addr → Prop} {LL : Ow} {ρ : Env} {σ : L2.St} {H H1 : Hp} {ds ds' : List D} {l : Addr} {xs' : List V} (R : Rel Kf P S0 LL ρ σ H) (s : Same H H1) (e : ρ[i]? = some (.ol ds)) (hl : σ[i]? = some (some (.ref l))) (r : Rps Kf (SS S0 LL) H1 ds' xs') :
    Rel Kf P S0 LL (ρ.set i (.ol ds')) σ (upd H1 l (.lst xs')) ∧ Fm LL H LL (upd H1 l (.lst xs')) := by
  obtain ⟨l', xs, g1, g2, g3, g4⟩ := R.chg (ds' := ds') i e
  rw [hl] at g1
  cases g1
  exact g4 xs' H1 s r
theorem own_rd {Kf : PySem.W.Frag} {S0 : Addr → Prop} {LL : Ow} {ρ : Env} {σ : L2.St} {H : Hp} {ds : List D} {l : Addr} (R : Rel Kf P S0 LL ρ σ H) (e : ρ[i]? = some (.ol ds)) (hl : σ[i]? = some (some (.ref l))) : ∃ xs, H l = some (.lst xs) ∧ Rps Kf (SS S0 LL) H ds xs := by
  obtain ⟨l', xs, g1, g2, g3, g4⟩ := R.chg (ds' := ds) i e
  rw [hl] at g1
  cases g1
  exact ⟨xs, g2, g3⟩
/-- x.append(e) -/
theorem s_app (hi : X.N[i]? = some x) (hv : Vis X.env.scope x) (hd : (x == ("__debug__" : Str)) = false) (hcd : (x == ("__classdict__" : Str)) = false) (he : PE X e' (tE X.K P cl W e)) (hs : okE e' = true) (hl : (apos.endLine == cpos.line) = true) :
    PS X (.Expr (.Call (.Attribute (.Name x p) "append" apos) [e'] [] cpos) pos) (tS X.K P cl W (.app i e)) := by
  refine psI (ps_expr (pe_bm PySem.F.plainAttrs_list PySem.F.slot_list_append PySem.F.type_list_append mt_append (pe_var hi hv hd hcd) (pa_cons he pa_nil (okE_star hs)) rfl (by rw [okE_star hs]; rfl) hl (okE_star hs) rfl)) fun D σ H ⟨S0, LL, ρ, k, R, hw, hk⟩ => ?_
  obtain ⟨⟨ds0, e0⟩, hw⟩ := hw
  obtain ⟨l, xs, h1, h2⟩ := own_at R e0
  refine ⟨_, h1, .inl ⟨rfl, xs, SqL.of h2⟩, S0, LL, ρ, _, _, R, hw, fun d v H1 s1 r1 q => ?_, exE R hk⟩
  obtain ⟨LL1, R1, f1, r1', _⟩ := shr_rel R s1 r1
  cases eo : (shr e d ρ)[i]? with
  | none => rw [eo] at q; exact q.elim
  | some sl =>
    rw [eo] at q
    cases sl <;> first | exact q.elim | skip
    rename_i ds
    obtain ⟨ys, g1, g2⟩ := own_rd (R1.same s1) eo h1
    obtain ⟨R3, F3⟩ := chg_read (R1.same s1) (Same.refl _) eo h1 (g2.append (.one r1'))
    exact ⟨l, ys, v, rfl, rfl, g1, by rw [← g2.length]; exact q.1, hk.nx _ _ _ _ R3 ((f1.trans (Fm.of_same s1)).trans F3) q.2⟩
/-- x.extend(e) -/
theorem s_ext (hi : X.N[i]? = some x) (hv : Vis X.env.scope x) (hd : (x == ("__debug__" : Str)) = false) (hcd : (x == ("__classdict__" : Str)) = false) (he : PE X e' (tE X.K P cl W e)) (hs : okE e' = true) (hl : (apos.endLine == cpos.line) = true) :
    PS X (.Expr (.Call (.Attribute (.Name x p) "extend" apos) [e'] [] cpos) pos) (tS X.K P cl W (.ext i e)) := by
  refine psI (ps_expr (pe_bm PySem.F.plainAttrs_list PySem.F.slot_list_extend PySem.F.type_list_extend mt_extend (pe_var hi hv hd hcd) (pa_cons he pa_nil (okE_star hs)) rfl (by rw [okE_star hs]; rfl) hl (okE_star hs) rfl)) fun D σ H ⟨S0, LL, ρ, k, R, hw, hk⟩ => ?_
  obtain ⟨⟨ds0, e0⟩, hw⟩ := hw
  obtain ⟨l, xs, h1, h2⟩ := own_at R e0
  refine ⟨_, h1, .inl ⟨rfl, xs, SqL.of h2⟩, S0, LL, ρ, _, _, R, hw, fun d v H1 s1 r1 q => ?_, exE R hk⟩
  obtain ⟨LL1, R1, f1, r1', _⟩ := shr_rel R s1 r1
  cases d <;> first | exact q.elim | skip
  rename_i es _
  cases eo : (shr e (.list es) ρ)[i]? with
  | none => rw [eo] at q; exact q.elim
  | some sl =>
    rw [eo] at q
    cases sl <;> first | exact q.elim | skip
    rename_i ds
    obtain ⟨ys, g1, g2⟩ := own_rd (R1.same s1) eo h1
    obtain ⟨b, zs, rfl, sb, hb, rb⟩ := r1'.lst_
    obtain ⟨R3, F3⟩ := chg_read (R1.same s1) (Same.refl _) eo h1 (g2.append rb)
    exact ⟨l, b, ys, zs, rfl, rfl, g1, hb, by rw [← g2.length, ← rb.length]; exact q.1, hk.nx _ _ _ _ R3 ((f1.trans (Fm.of_same s1)).trans F3) q.2⟩
theorem last_at {α : Type} : ∀ {xs : List α} {y : α}, xs.getLast? = some y → xs[xs.length - 1]? = some y := fun {xs y} h => by rw [← List.getLast?_eq_getElem?]; exact h
/-- x.pop() -/
theorem s_pop (hi : X.N[i]? = some x) (hv : Vis X.env.scope x) (hd : (x == ("__debug__" : Str)) = false) (hcd : (x == ("__classdict__" : Str)) = false) (hl : (apos.endLine == cpos.line) = true) :
    PS X (.Expr (.Call (.Attribute (.Name x p) "pop" apos) [] [] cpos) pos) (tS X.K P cl W (.pop i)) := by
  refine psI (ps_expr (pe_bm0 PySem.F.plainAttrs_list PySem.F.slot_list_pop PySem.F.type_list_pop mt_pop (pe_var hi hv hd hcd) rfl hl)) fun D σ H ⟨S0, LL, ρ, k, R, hw, hk⟩ => ?_
  unfold wS at hw
  cases eo : ρ[i]? with
  | none => rw [eo] at hw; exact hw.elim
  | some sl =>
    rw [eo] at hw
    cases sl <;> first | exact hw.elim | skip
    rename_i ds
    obtain ⟨hne, hn⟩ := hw
    obtain ⟨l, xs0, h1, _⟩ := own_at R eo
    obtain ⟨xs, g1, g2⟩ := own_rd R eo h1
    obtain ⟨d, ed⟩ : ∃ d, ds.getLast? = some d := by
      cases q : ds.getLast? with
      | none => exact absurd (List.getLast?_eq_none_iff.mp q) hne
      | some d => exact ⟨d, rfl⟩
    obtain ⟨y, ey, ry⟩ := g2.get (last_at ed)
    obtain ⟨R3, F3⟩ := chg_read R (Same.refl _) eo h1 g2.dropLast
    exact ⟨_, h1, .inl ⟨rfl, xs, SqL.of g1⟩, l, xs, y, rfl, rfl, g1, by rw [← g2.length]; exact ey, hk.nx _ _ _ _ R3 F3 hn⟩
/-- y = x.pop() -/
theorem s_popTo {y : Str} {p2 : Pos} (hN : X.N.Nodup) (hi : X.N[i]? = some x) (hv : Vis X.env.scope x) (hd : (x == ("__debug__" : Str)) = false) (hcd : (x == ("__classdict__" : Str)) = false) (hl : (apos.endLine == cpos.line) = true)
    (hj : X.N[j]? = some y) (hy : Loc X.env.scope y) (hf : X.fn y = true ∨ X.env.scope.names.lookup y = some .local) : PS X (.Assign [.Name y p2] (.Call (.Attribute (.Name x p) "pop" apos) [] [] cpos) pos) (tS X.K P cl W (.popTo j i)) := by
  refine psI (ps_set hN hj hy (pe_bm0 PySem.F.plainAttrs_list PySem.F.slot_list_pop PySem.F.type_list_pop mt_pop (pe_var hi hv hd hcd) rfl hl) rfl hf) fun D σ H ⟨S0, LL, ρ, k, R, hw, hk⟩ => ?_
  unfold wS at hw
  cases eo : ρ[i]? with
  | none => rw [eo] at hw; exact hw.elim
  | some sl =>
    rw [eo] at hw
    cases sl <;> first | exact hw.elim | skip
    rename_i ds
    obtain ⟨d, ed, hn⟩ := hw
    obtain ⟨l, xs0, h1, _⟩ := own_at R eo
    obtain ⟨xs, g1, g2⟩ := own_rd R eo h1
    obtain ⟨v, ey, ry⟩ := g2.get (last_at ed)
    obtain ⟨l', xs', k1, k2, k3, k4⟩ := R.chg (ds' := ds.dropLast) i eo
    rw [h1] at k1
    cases k1
    rw [g1] at k2
    cases k2
    obtain ⟨R3, F3⟩ := k4 xs.dropLast H (Same.refl _) g2.dropLast
    have rv : Rp X.K (SS S0 LL) (upd H l (.lst xs.dropLast)) d v := by
      have kp : Kp (SS S0 LL) H (upd H l (.lst xs.dropLast)) := fun b o eb h => by
        have nb : b ≠ l := by
          rintro rfl
          rcases h with h | h
          · obtain ⟨a, ys, z1, z2, _⟩ := R.slot i _ eo
            have z1 : σ[i]?.join = some (.ref a) := z1
            rw [h1] at z1
            cases z1
            exact h.2 i (by rw [z2]; exact List.mem_cons_self)
          · rw [g1] at eb; cases eb; exact h _ rfl
        rw [upd_ne nb]; exact eb
      exact Rp.mono (fun _ _ _ h => h) kp _ _ ry
    exact ⟨_, h1, .inl ⟨rfl, xs, SqL.of g1⟩, l, xs, v, rfl, rfl, g1, by rw [← g2.length]; exact ey, hk.nx _ _ _ _ (R3.setVa j rv) (F3.trans Fm.less) hn⟩
/-- x.pop(a) -/
theorem s_popA (hi : X.N[i]? = some x) (hv : Vis X.env.scope x) (hd : (x == ("__debug__" : Str)) = false) (hcd : (x == ("__classdict__" : Str)) = false) (ha : PE X a' (tE X.K P cl W a)) (hs : okE a' = true) (hl : (apos.endLine == cpos.line) = true) :
    PS X (.Expr (.Call (.Attribute (.Name x p) "pop" apos) [a'] [] cpos) pos) (tS X.K P cl W (.popA i a)) := by
  refine psI (ps_expr (pe_bm PySem.F.plainAttrs_list PySem.F.slot_list_pop PySem.F.type_list_pop mt_popAt (pe_var hi hv hd hcd) (pa_cons ha pa_nil (okE_star hs)) rfl (by rw [okE_star hs]; rfl) hl (okE_star hs) rfl)) fun D σ H ⟨S0, LL, ρ, k, R, hw, hk⟩ => ?_
  unfold wS at hw
  cases eo : ρ[i]? with
  | none => rw [eo] at hw; exact hw.elim
  | some sl =>
    rw [eo] at hw
    cases sl <;> first | exact hw.elim | skip
    rename_i ds
    obtain ⟨l, xs0, h1, h2⟩ := own_at R eo
    refine ⟨_, h1, .inl ⟨rfl, xs0, SqL.of h2⟩, S0, LL, ρ, _, _, R, hw, fun d v H1 s1 r1 q => ?_, exE R hk⟩
    cases d <;> first | exact q.elim | skip
    obtain ⟨n, hn, hsz, q3⟩ := q
    have ew := r1.1.int_
    subst ew
    obtain ⟨xs, g1, g2⟩ := own_rd (R.same s1) eo h1
    obtain ⟨i1, i2, i3, i4⟩ := ixN_seq hn
    obtain ⟨y, ey, ry⟩ := g2.get (List.getElem?_eq_getElem i2)
    obtain ⟨R3, F3⟩ := chg_read (R.same s1) (Same.refl _) eo h1 (g2.eraseIdx n)
    have z : (sizeLine : Int) < 2 ^ 63 := by rw [sizeLine_eq]; decide
    exact ⟨l, xs, _, n, y, rfl, rfl, g1, by omega, by omega, by rw [← g2.length]; exact i1, ey, hk.nx _ _ _ _ R3 ((Fm.of_same s1).trans F3) q3⟩
/-- x op= e, ints -/
def ipD (o : Bo) : TIp := fun x y H Q => ∃ a b : Int, x = .int a ∧ y = .int b ∧ binR o (.int a) (.int b) fun z => ∃ c : Int, z = .int c ∧ Q (.int c) H
theorem s_aug {o : Bo} (hN : X.N.Nodup) (hi : X.N[i]? = some x) (hx : Loc X.env.scope x) (hf : X.fn x = true ∨ X.env.scope.names.lookup x = some .local) (he : PE X e' (tE X.K P cl W e)) (ho : PIp X (toOp o) (ipD o)) : PS X (.AugAssign (.Name x p) (toOp o) e' pos) (tS X.K P cl W (.aug i o e)) := by
  refine psI (ps_aug hN hi hx he ho hf) fun D σ H ⟨S0, LL, ρ, k, R, hw, hk⟩ => ?_
  unfold wS at hw
  cases eo : ρ[i]? with
  | none => rw [eo] at hw; exact hw.elim
  | some sl =>
    rw [eo] at hw
    cases sl <;> first | exact hw.elim | skip
    rename_i d0
    obtain ⟨_, x0, e0, r0⟩ := R.slot i _ eo
    have es : σ[i]? = some (some x0) := by
      cases q : σ[i]? with
      | none => rw [q] at e0; cases e0
      | some w => rw [q] at e0; exact congrArg some e0
    refine ⟨x0, es, S0, LL, ρ, _, _, R, hw, fun d v H1 s1 r1 q => ?_, exE R hk⟩
    cases d0 <;> cases d <;> first | exact q.elim | skip
    have e1 := r0.int_
    have e2 := r1.1.int_
    subst e1 e2
    refine ⟨_, _, rfl, rfl, ?_⟩
    have fin : ∀ c : Int, k.nx (ρ.set i (.va (.int c))) → D.nx (σ.set i (some (.int c))) H1 := fun c hc => hk.nx _ _ _ _ ((R.same s1).setVa i (by simp only [Rp])) ((Fm.of_same s1).trans Fm.less) hc
    cases o <;> first | exact ⟨_, rfl, fin _ q⟩ | exact ⟨q.1, _, rfl, fin _ q.2⟩
end
end Uq

set_option maxHeartbeats 1000000
/-! Uq, part o2: lists of own lists. -/
namespace Uq
open PySem PySem.Spec PyProof.Rows L2
section
variable {K : PySem.W.Frag} {P : Pg} {S0 : Addr → Prop} {LL : Ow} {ρ : Env} {σ : L2.St} {H H1 : Hp} {i n : Nat}
theorem Lset_id : Lset LL i (LL i) = LL := by
  funext j
  by_cases ej : j = i
  · subst ej; rw [Lset_same]
  · rw [Lset_ne ej]
theorem set_id {a : Addr} (es : σ[i]? = some (some (.ref a))) : σ.set i (some (.ref a)) = σ := by
  apply List.ext_getElem?
  intro j
  by_cases ej : i = j
  · subst ej
    rw [List.getElem?_set_self (List.getElem?_eq_some_iff.mp es).1, es]
  · rw [List.getElem?_set_ne ej]
theorem Rel.atN (R : Rel K P S0 LL ρ σ H) {dss : List (List D)} (e : ρ[i]? = some (.nl dss)) : ∃ a bs, σ[i]? = some (some (.ref a)) ∧ LL i = a :: bs ∧ (a :: bs).Nodup ∧ H a = some (.lst (bs.map V.ref)) ∧ RNl K (SS S0 LL) H bs dss := by
  obtain ⟨a, bs, ev, eL, nd, ha, r⟩ := R.slot i _ e
  refine ⟨a, bs, ?_, eL, nd, ha, r⟩
  cases q : σ[i]? with
  | none => rw [q] at ev; cases ev
  | some w => rw [q] at ev; exact congrArg some ev
/-- one of the own lists is changed -/
theorem Rel.chgN (R : Rel K P S0 LL ρ σ H) {dss : List (List D)} {ds' : List D} {a b : Addr} {bs : List Addr} {xs xs' : List V} (e : ρ[i]? = some (.nl dss)) (es : σ[i]? = some (some (.ref a))) (eL : LL i = a :: bs) (eb : bs[n]? = some b)
    (hb : H b = some (.lst xs)) (r' : Rps K (SS S0 LL) H ds' xs') : Rel K P S0 LL (ρ.set i (.nl (dss.set n ds'))) σ (upd H b (.lst xs')) ∧ Fm LL H LL (upd H b (.lst xs')) := by
  obtain ⟨a', bs', es', eL', nd, ha, r⟩ := R.atN e
  rw [es] at es'
  cases es'
  rw [eL] at eL'
  cases eL'
  have bm : b ∈ LL i := by rw [eL]; exact List.mem_cons_of_mem _ (List.mem_of_getElem? eb)
  have na : ∀ c, SS S0 LL c → c ≠ b := fun c h z => h.2 i (by rw [z]; exact bm)
  have kp : Kp (SS S0 LL) H (upd H b (.lst xs')) := fun c o ec h => by
    rw [upd_ne]
    · exact ec
    · rintro rfl
      rcases h with h | h
      · exact na _ h rfl
      · rw [hb] at ec; cases ec; exact h _ rfl
  have hab : a ≠ b := fun z => (List.nodup_cons.mp nd).1 (by rw [z]; exact List.mem_of_getElem? eb)
  have Z := R.put (H' := upd H b (.lst xs')) i (.nl (dss.set n ds')) (some (.ref a)) (LL i) (fun c _ _ h => by rw [Lset_id]; exact h) kp (fun j hj c hc => ?_) ?_ (fun c hc => ?_) (fun c h => ?_)
  · rw [Lset_id, set_id es] at Z
    refine ⟨Z, fun c o ec h => ?_, fun j c h => .inl ⟨j, h⟩⟩
    rw [upd_ne]
    · exact ec
    · rintro rfl
      exact h i bm
  · rw [upd_ne]
    rintro rfl
    exact hj (R.dj j i _ hc bm)
  · rw [Lset_id]
    exact ⟨a, bs, rfl, eL, nd, by rw [upd_ne hab]; exact ha, RNl.upd kp (Rps.mono (fun _ _ _ h => h) kp _ _ r') (List.nodup_cons.mp nd).2 eb r⟩
  · refine ⟨(R.own i c hc).1, ?_, fun j hj hb' => hj (R.dj j i c hb' hc)⟩
    by_cases ec : c = b
    · subst ec; exact ⟨xs', upd_same⟩
    · rw [upd_ne ec]; exact (R.own i c hc).2
  · by_cases ec : c = b
    · subst ec; rw [upd_same] at h; cases h
    · rw [upd_ne ec] at h; exact h
/-- one more own list -/
theorem Rel.chgA {Hs : Hp} (R : Rel K P S0 LL ρ σ Hs) (s : Same Hs H) {dss : List (List D)} {a b : Addr} {bs : List Addr} (e : ρ[i]? = some (.nl dss)) (es : σ[i]? = some (some (.ref a))) (eL : LL i = a :: bs) (hn : Hs b = none) (hb : H b = some (.lst [])) :
    Rel K P S0 (Lset LL i (a :: (bs ++ [b]))) (ρ.set i (.nl (dss ++ [[]]))) σ (upd H a (.lst (bs.map V.ref ++ [.ref b]))) ∧ Fm LL Hs (Lset LL i (a :: (bs ++ [b]))) (upd H a (.lst (bs.map V.ref ++ [.ref b]))) := by
  obtain ⟨a', bs', es', eL', nd, ha, r⟩ := R.atN e
  rw [es] at es'
  cases es'
  rw [eL] at eL'
  cases eL'
  have am : a ∈ LL i := by rw [eL]; exact List.mem_cons_self
  have nb : ∀ j, b ∉ LL j := fun j h => by
    obtain ⟨_, ys, z⟩ := R.own j b h
    rw [hn] at z; cases z
  have hab : a ≠ b := fun z => nb i (by rw [← z]; exact am)
  have na : ∀ c, SS S0 LL c → c ≠ a := fun c h z => h.2 i (by rw [z]; exact am)
  have ha1 : H a = some (.lst (bs.map V.ref)) := s a _ ha
  have inL : ∀ c, c ∈ a :: (bs ++ [b]) ↔ c ∈ LL i ∨ c = b := fun c => by rw [eL]; simp [or_assoc]
  have sub : ∀ c, SS S0 LL c → c ≠ b → SS S0 (Lset LL i (a :: (bs ++ [b]))) c := fun c h n => ⟨h.1, fun j hj => by
    by_cases ej : j = i
    · subst ej
      rw [Lset_same] at hj
      rcases (inL c).mp hj with z | z
      · exact h.2 j z
      · exact n z
    · rw [Lset_ne ej] at hj; exact h.2 j hj⟩
  have kp : Kp (SS S0 LL) Hs (upd H a (.lst (bs.map V.ref ++ [.ref b]))) := fun c o ec h => by
    rw [upd_ne]
    · exact s c o ec
    · rintro rfl
      rcases h with h | h
      · exact na _ h rfl
      · rw [ha] at ec; cases ec; exact h _ rfl
  have Z := R.put (H' := upd H a (.lst (bs.map V.ref ++ [.ref b]))) i (.nl (dss ++ [[]])) (some (.ref a)) (a :: (bs ++ [b])) (fun c o ec h => sub c h (ne_of_none ec hn)) kp (fun j hj c hc => ?_) ?_ (fun c hc => ?_) (fun c h => ?_)
  · rw [set_id es] at Z
    refine ⟨Z, fun c o ec h => ?_, fun j c h => ?_⟩
    · rw [upd_ne]
      · exact s c o ec
      · rintro rfl
        exact h i am
    · by_cases ej : j = i
      · subst ej
        rw [Lset_same] at h
        rcases (inL c).mp h with z | rfl
        · exact .inl ⟨j, z⟩
        · exact .inr hn
      · rw [Lset_ne ej] at h
        exact .inl ⟨j, h⟩
  · obtain ⟨_, xs, z⟩ := R.own j c hc
    rw [upd_ne, z, s c _ z]
    rintro rfl
    exact hj (R.dj j i _ hc am)
  · refine ⟨a, bs ++ [b], rfl, rfl, ?_, by rw [upd_same, List.map_append]; rfl, ?_⟩
    · have e2 : a :: (bs ++ [b]) = (a :: bs) ++ [b] := rfl
      rw [e2]
      refine List.nodup_append.mpr ⟨nd, by simp, fun x hx y hy => ?_⟩
      rw [List.mem_singleton] at hy
      subst hy
      rintro rfl
      exact nb i (by rw [eL]; exact hx)
    · refine RNl.snoc (by rw [upd_ne hab.symm]; exact hb) (r.mono (fun c o ec h => sub c h (ne_of_none ec hn)) kp fun c hc => ?_)
      obtain ⟨_, xs, z⟩ := R.own i c (by rw [eL]; exact List.mem_cons_of_mem _ hc)
      rw [upd_ne, z, s c _ z]
      rintro rfl
      exact (List.nodup_cons.mp nd).1 hc
  · rcases (inL c).mp hc with z | rfl
    · refine ⟨(R.own i c z).1, ?_, fun j hj hb' => hj (R.dj j i c hb' z)⟩
      by_cases ec : c = a
      · subst ec; exact ⟨_, upd_same⟩
      · obtain ⟨_, xs, q⟩ := R.own i c z
        exact ⟨xs, by rw [upd_ne ec]; exact s c _ q⟩
    · exact ⟨R.fr c hn, ⟨[], by rw [upd_ne hab.symm]; exact hb⟩, fun j _ => nb j⟩
  · by_cases ec : c = a
    · subst ec; rw [upd_same] at h; cases h
    · rw [upd_ne ec] at h; exact same_none s h
end
section
variable {X : Cx} {P : Pg} {cl : Cl} {W : WX} {e' a' : Expr} {e a : C} {pos p apos cpos spos : Pos} {x : Str} {i j : Nat}
/-- x = [], a list that will hold own lists -/
theorem s_nnew {p : Pos} (hN : X.N.Nodup) (hi : X.N[i]? = some x) (hx : Loc X.env.scope x) (hf : X.fn x = true ∨ X.env.scope.names.lookup x = some .local) (he : PE X e' (tE X.K P cl W (.lst []))) (hs : swapsWith e' (some (.Name x p)) pos.line X.env = pure false) :
    PS X (.Assign [.Name x p] e' pos) (tS X.K P cl W (.nnew i)) := by
  refine psI (ps_set hN hi hx he hs hf) fun D σ H ⟨S0, LL, ρ, k, R, hw, hk⟩ => ⟨S0, LL, ρ, fun d => d = .list [], fun _ _ => False, R, rfl, fun d v H' s r q => ?_, fun _ _ _ _ _ _ _ z => z.elim⟩
  · subst q
    obtain ⟨a, vs, rfl, hn, ha, rv⟩ := r.2 rfl [] rfl
    have : vs = [] := by simpa only [Rps] using rv
    subst this
    have na : ∀ j, a ∉ LL j := fun j h => by
      obtain ⟨_, ys, z⟩ := R.own j a h
      rw [hn] at z; cases z
    have R2 : Rel X.K P S0 (Lset LL i [a]) (ρ.set i (.nl [])) (σ.set i (some (.ref a))) H' := by
      refine R.put i _ _ [a] (fun b o eb h => ⟨h.1, fun j hj => ?_⟩) (.of_same s) (fun j _ b hb => ?_) ⟨a, [], rfl, rfl, by simp, ha, trivial⟩ (fun b hb => ?_) fun b h => same_none s h
      · by_cases ej : j = i
        · subst ej
          rw [Lset_same] at hj
          rw [List.mem_singleton.mp hj, hn] at eb
          cases eb
        · rw [Lset_ne ej] at hj; exact h.2 j hj
      · obtain ⟨_, ys, z⟩ := R.own j b hb
        rw [z, s b _ z]
      · rw [List.mem_singleton.mp hb]
        exact ⟨R.fr a hn, ⟨[], ha⟩, fun j _ => na j⟩
    exact hk.nx _ _ _ _ R2 (Fm.more s hn) hw
/-- x.append([]) -/
theorem s_napp (hi : X.N[i]? = some x) (hv : Vis X.env.scope x) (hd : (x == ("__debug__" : Str)) = false) (hcd : (x == ("__classdict__" : Str)) = false) (he : PE X e' (tE X.K P cl W (.lst []))) (hs : okE e' = true) (hl : (apos.endLine == cpos.line) = true) :
    PS X (.Expr (.Call (.Attribute (.Name x p) "append" apos) [e'] [] cpos) pos) (tS X.K P cl W (.napp i)) := by
  refine psI (ps_expr (pe_bm PySem.F.plainAttrs_list PySem.F.slot_list_append PySem.F.type_list_append mt_append (pe_var hi hv hd hcd) (pa_cons he pa_nil (okE_star hs)) rfl (by rw [okE_star hs]; rfl) hl (okE_star hs) rfl)) fun D σ H ⟨S0, LL, ρ, k, R, hw, hk⟩ => ?_
  unfold wS at hw
  cases eo : ρ[i]? with
  | none => rw [eo] at hw; exact hw.elim
  | some sl =>
    rw [eo] at hw
    cases sl <;> first | exact hw.elim | skip
    rename_i dss
    obtain ⟨hz, hn⟩ := hw
    obtain ⟨a, bs, es, eL, nd, ha, r⟩ := R.atN eo
    refine ⟨_, es, .inl ⟨rfl, _, SqL.of ha⟩, S0, LL, ρ, fun d => d = .list [], fun _ _ => False, R, rfl, fun d v H1 s1 r1 q => ?_, fun _ _ _ _ _ _ _ z => z.elim⟩
    subst q
    obtain ⟨b, vs, rfl, hb, hb1, rv⟩ := r1.2 rfl [] rfl
    have : vs = [] := by simpa only [Rps] using rv
    subst this
    obtain ⟨R3, F3⟩ := R.chgA s1 eo es eL hb hb1
    exact ⟨a, _, _, rfl, rfl, s1 a _ ha, by rw [List.length_map, r.len]; exact hz, hk.nx _ _ _ _ R3 F3 hn⟩
/-- x[a].append(e) -/
theorem s_nadd (hi : X.N[i]? = some x) (hv : Vis X.env.scope x) (hd : (x == ("__debug__" : Str)) = false) (hcd : (x == ("__classdict__" : Str)) = false) (ha' : PE X a' (tE X.K P cl W a)) (hm : PlainIx a') (he : PE X e' (tE X.K P cl W e)) (hs : okE e' = true) (hl : (apos.endLine == cpos.line) = true) :
    PS X (.Expr (.Call (.Attribute (.Subscript (.Name x p) a' spos) "append" apos) [e'] [] cpos) pos) (tS X.K P cl W (.nadd i a e)) := by
  refine psI (ps_expr (pe_bm PySem.F.plainAttrs_list PySem.F.slot_list_append PySem.F.type_list_append mt_append (pe_ix ix_list (pe_var hi hv hd hcd) ha' hm) (pa_cons he pa_nil (okE_star hs)) rfl (by rw [okE_star hs]; rfl) hl (okE_star hs) rfl)) fun D σ H ⟨S0, LL, ρ, k, R, hw, hk⟩ => ?_
  unfold wS at hw
  cases eo : ρ[i]? with
  | none => rw [eo] at hw; exact hw.elim
  | some sl =>
    rw [eo] at hw
    cases sl <;> first | exact hw.elim | skip
    rename_i dss
    obtain ⟨l, bs, es, eL, nd, ha, r⟩ := R.atN eo
    refine ⟨_, es, S0, LL, ρ, _, _, R, hw, fun y w H1 s1 r1 q1 => ?_, exE R hk⟩
    cases y <;> first | exact q1.elim | skip
    rename_i j
    obtain ⟨n, ds, hn, hds, hz, hwe⟩ := q1
    have ew := r1.1.int_
    subst ew
    have R1 := R.same s1
    obtain ⟨l1, bs1, es1, eL1, nd1, ha1, r1'⟩ := R1.atN eo
    rw [es] at es1
    cases es1
    rw [eL] at eL1
    cases eL1
    obtain ⟨b, xs, eb, hb, rb⟩ := r1'.get hds
    have hat : L2.atI (bs.map V.ref) j = some (.ref b) := by
      unfold L2.atI
      rw [List.length_map, r.len, hn]
      simp [eb]
    refine ⟨l, bs.map V.ref, j, .ref b, rfl, rfl, SqL.of ha1, hat, .inl ⟨rfl, xs, SqL.of hb⟩, S0, LL, ρ, _, _, R1, hwe, fun d v H2 s2 r2 q2 => ?_, fun c fs cv dx H' s x q => hk.ex c fs cv dx LL ρ σ H' (R1.same s) (Fm.of_same (sq_ s1 s)) x q⟩
    obtain ⟨hnl, hnx⟩ := q2
    have R2 := R1.same s2
    have hb2 := s2 b _ hb
    obtain ⟨R3, F3⟩ := R2.chgN (ds' := ds ++ [d]) eo es eL eb hb2 ((rb.same s2).append (.one (Rp.noL _ _ hnl r2.1)))
    refine ⟨b, xs, v, rfl, rfl, hb2, by rw [← rb.length]; exact hz, ?_⟩
    exact hk.nx _ _ _ _ R3 ((Fm.of_same (sq_ s1 s2)).trans F3) hnx
end
end Uq

set_option maxHeartbeats 1000000
/-! Uq, part p: loops. -/
namespace Uq
open PySem PySem.Spec PyProof.Rows L2
section
variable {X : Cx} {P : Pg} {cl : Cl} {W : WX} {tg it : Expr} {pos : Pos} {t : Tg} {kd : IK} {es : List C} {body : List S} {body' : List Stmt}
theorem fm_kp {Kf : PySem.W.Frag} {S0 : Addr → Prop} {LL LL' : Ow} {ρ : Env} {σ : L2.St} {H H' : Hp} (R : Rel Kf P S0 LL ρ σ H) (f : Fm LL H LL' H') {S : Addr → Prop} (hS : ∀ a, S a → SS S0 LL a) : Kp S H H' := fun a o e h => by
  refine f.1 a o e fun j hj => ?_
  rcases h with h | h
  · exact (hS a h).2 j hj
  · obtain ⟨_, xs, z⟩ := R.own j a hj
    rw [e] at z
    cases z
    exact h _ rfl
theorem s_fr (hp : PassesOwn (model X.prog X.w) X.A X.env X.xe) (hc : X.calm = true) (hi : PI X tg it (tI X.K P cl W kd es)) (hg : PG X tg (gTg X.K t)) (hb : PSs X body' (tSs X.K P cl W body)) (hs : ∀ x, foldedSetIterable it X.env x = pure x) :
    PS X (.For tg it body' [] pos) (tS X.K P cl W (.fr t kd es body)) := by
  refine psI (ps_for hp hc hi hg hb hs) fun D σ H ⟨S0, LL, ρ, k, R, hw, hk⟩ => ⟨S0, LL, ρ, _, _, R, hw, fun ds J H1 s1 wk hl => ?_, exE R hk⟩
  have R1 : Rel X.K P S0 (Lfrz LL (fzNm kd es)) (frzIt kd es ρ) σ H1 := by
    rw [frzIt_eq]
    exact (R.same s1).frzL _
  have F1 : Fm LL H (Lfrz LL (fzNm kd es)) H1 := (Fm.of_same s1).trans Fm.frz
  have wk1 : Wk X.K (SS S0 (Lfrz LL (fzNm kd es))) J H1 ds := fun S' hS => wk S' fun a o e z => hS a o e z.frz
  generalize Lfrz LL (fzNm kd es) = L1 at R1 F1 wk1
  generalize frzIt kd es ρ = ρ1 at R1 hl
  have hk1 : EdOk X.K P W S0 L1 H1 k D := hk.from F1
  refine ⟨fun i m σ2 H2 => m = ds.length - i ∧ ∃ L2' ρ2, Rel X.K P S0 L2' ρ2 σ2 H2 ∧ Fm L1 H1 L2' H2 ∧ frW (wSs cl body) t k (ds.drop i) ρ2, ⟨_, rfl, L1, ρ1, R1, Fm.refl, hl⟩, ?_⟩
  rintro i m σ2 H2 ⟨rfl, L2', ρ2, R2, f2, h2⟩
  have w := wk1 (fun a => SS S0 L1 a ∧ H1 a ≠ none) (fun a o e z => ⟨z, fun y => by rw [e] at y; cases y⟩) H2 i (fm_kp R1 f2 fun a z => z.1)
  cases ed : ds[i]? with
  | none =>
    have hi' : ds.length ≤ i := by rw [List.getElem?_eq_none_iff] at ed; exact ed
    rw [List.drop_eq_nil_of_le hi'] at h2
    exact .inl ⟨w.2 hi', hk1.nx _ _ _ _ R2 f2 h2⟩
  | some d =>
    have hlt : i < ds.length := (List.getElem?_eq_some_iff.mp ed).1
    obtain ⟨wg, wy⟩ := w.1 d ed
    have hdr : ds.drop i = d :: ds.drop (i + 1) := by
      rw [List.drop_eq_getElem_cons hlt]
      congr 1
      rw [List.getElem?_eq_getElem hlt] at ed
      exact Option.some.inj ed
    rw [hdr] at h2
    refine .inr ⟨wg, fun σ3 H3 => ∃ L3 ρ3, Rel X.K P S0 L3 ρ3 σ3 H3 ∧ Fm L1 H1 L3 H3 ∧ frW (wSs cl body) t k (ds.drop (i + 1)) ρ3, fun σ3 H3 h3 => ⟨ds.length - (i + 1), by omega, rfl, h3⟩, fun x H3 hy => ?_⟩
    obtain ⟨s3, rx⟩ := wy x H3 hy
    have rx' : Rp X.K (SS S0 L2') H3 d x := rx.wide fun a o _ z => ⟨z.1.1, fun j hj => by
      rcases f2.2 j a hj with ⟨j', q⟩ | q
      · exact z.1.2 j' q
      · exact z.2 q⟩
    have h2 : tgR t d ρ2 fun ρ' => wSs cl body ρ' { k with nx := frW (wSs cl body) t k (ds.drop (i + 1)), ct := frW (wSs cl body) t k (ds.drop (i + 1)), bk := k.nx } := h2
    have f3 : Fm L1 H1 L2' H3 := f2.trans (Fm.of_same s3)
    refine tg_read (R2.same s3) rx' h2 fun L4 ρ4 σ4 St h4 => ⟨S0, L4, ρ4, _, St.rel, h4, ?_⟩
    have f4 : Fm L1 H1 L4 H3 := f3.trans St.fm
    exact ⟨fun _ _ _ _ R' f q => ⟨_, _, R', f4.trans f, q⟩, fun _ _ _ _ r f q => hk1.rt _ _ _ _ r (f4.trans f) q, fun _ _ _ _ R' f q => hk1.nx _ _ _ _ R' (f4.trans f) q, fun _ _ _ _ R' f q => ⟨_, _, R', f4.trans f, q⟩,
      fun _ _ _ _ _ _ _ _ R' f x q => hk1.ex _ _ _ _ _ _ _ _ R' (f4.trans f) x q⟩
theorem s_wh {c : C} {c' : Expr} (hp : PassesOwn (model X.prog X.w) X.A X.env X.xe) (hc : PT X c' (tT X.K P cl W c)) (hb : PSs X body' (tSs X.K P cl W body)) : PS X (.While c' body' [] pos) (tS X.K P cl W (.wh c body)) := by
  refine psI (ps_while hp hc hb) fun D σ H ⟨S0, LL, ρ, k, R, hw, hk⟩ => ?_
  obtain ⟨n, hw⟩ := hw
  refine ⟨fun m σ2 H2 => ∃ L2' ρ2, Rel X.K P S0 L2' ρ2 σ2 H2 ∧ Fm LL H L2' H2 ∧ whW (fun ρ q e => wT cl c ρ q fun c fs => e c fs ρ) (wSs cl body) k m ρ2, ⟨n, LL, ρ, R, Fm.refl, hw⟩, ?_⟩
  rintro m σ2 H2 ⟨L2', ρ2, R2, f2, h2⟩
  cases m with
  | zero => exact h2.elim
  | succ m =>
    refine ⟨S0, L2', ρ2, _, _, R2, h2, fun d H3 s3 h3 => truR_mono h3 fun b hb => ?_, fun c fs cv dx H' s x q => hk.ex c fs cv dx _ _ _ _ (R2.same s) (f2.trans (Fm.of_same s)) x q⟩
    have f3 : Fm LL H L2' H3 := f2.trans (Fm.of_same s3)
    cases b with
    | false => exact hk.nx _ _ _ _ (R2.same s3) f3 hb
    | true =>
      refine ⟨fun σ3 H3 => ∃ L3 ρ3, Rel X.K P S0 L3 ρ3 σ3 H3 ∧ Fm LL H L3 H3 ∧ whW (fun ρ q e => wT cl c ρ q fun c fs => e c fs ρ) (wSs cl body) k m ρ3, fun σ3 H4 h4 => ⟨m, Nat.lt_succ_self m, h4⟩, S0, L2', ρ2, _, R2.same s3, hb, ?_⟩
      exact ⟨fun _ _ _ _ R' f q => ⟨_, _, R', f3.trans f, q⟩, fun _ _ _ _ r f q => hk.rt _ _ _ _ r (f3.trans f) q, fun _ _ _ _ R' f q => hk.nx _ _ _ _ R' (f3.trans f) q, fun _ _ _ _ R' f q => ⟨_, _, R', f3.trans f, q⟩,
        fun _ _ _ _ _ _ _ _ R' f x q => hk.ex _ _ _ _ _ _ _ _ R' (f3.trans f) x q⟩
end
end Uq

set_option maxHeartbeats 1000000
/-! Uq, part q: raise. -/
namespace Uq
open PySem PySem.Spec PyProof.Rows L2
section
variable {cf : Cf} {P : Pg} {k : Nat} {cl : Cl} {X : Cx} {W : WX} {x : Str} {p pos cpos : Pos} {a' : Expr} {es : List Expr} {cs : List C} {c : Nat}
theorem s_rai (G : Gd X cf P cl k) (tk : Takes X W) (hg : Gl X x) (hx : cf.xcI x = some c) (hc : c ∈ P.rz) (hd : (x == ("__debug__" : Str)) = false) (ha : All2 (AEx X P cl W) cs (a' :: es)) (hl : cs.length ≤ 10) :
    PS X (.Raise (some (.Call (.Name x p) (a' :: es) [] cpos)) none pos) (tS X.K P cl W (.rai c cs)) := by
  obtain ⟨fI, fd, ps, i1, i2, i3, i4⟩ := (G.made c hc).ini
  have hr : Room (1 + 1) X.A := G.rm.mono G.k2
  have pa := args_pa ha
  have hpl : (backTo cpos (starEach es X.env)).any (·.1) = false := by cases ha with | cons _ zz => exact args_plain zz
  have hst : starEach (a' :: es) X.env = (false, eval a' X.env) :: starEach es X.env := by cases ha with | cons z _ => exact okE_star z.1
  refine psI (ps_raise G.calm tk (pmk_oex (G.made c hc).oex i1 i2 i3 hr i4 (ds := []) (dvs := []) .nil pass0 hg (G.xc x c hx) pa hd hst hpl)) fun D σ H ⟨S0, LL, ρ, kk, R, hw, hk⟩ => ⟨S0, LL, ρ, _, _, R, hw, fun ds vs H1 s1 r1 l1 q => ?_, exE R hk⟩
  obtain ⟨q1, q2, q3⟩ := q
  have hlen : vs.length = (P.flds c).length := by rw [← r1.length, q2, G.fl]
  refine ⟨by rw [← r1.length, l1]; omega, fun a hn => ?_⟩
  refine ⟨by simp [hlen], a, vs, by rw [List.append_nil], upd_same, fun d H2 hd2 hne h1 h2 h3 => ?_⟩
  have hd1 : H1 d = none := by rwa [upd_ne hne] at hd2
  refine ⟨rfl, d, _, h1, h2, hd1, ?_⟩
  have sm : Same H1 (upd (del H2 a) d (.xd ((P.flds c).zip vs).reverse)) := fun b o e => by
    have n1 : b ≠ d := fun z => by rw [z, hd1] at e; cases e
    have n2 : b ≠ a := fun z => by rw [z, hn] at e; cases e
    rw [upd_ne n1, del_ne n2, h3 b n2 n1, upd_ne n2]
    exact e
  have sm2 : Same H (upd (del H2 a) d (.xd ((P.flds c).zip vs).reverse)) := sq_ s1 sm
  exact hk.ex c ds _ _ LL ρ σ _ (R.same sm2) (Fm.of_same sm2) ⟨hc, d, vs, rfl, rfl, upd_same, q1, Rps.noL _ _ q1 (r1.same sm), by rw [q2, G.fl]⟩ q3
end
end Uq

set_option maxHeartbeats 2000000
/-! Uq, part r: try with several clauses, each with a name or without. -/
namespace Uq
open PySem PySem.Spec PyProof.Rows L2
abbrev HTs := Addr → Obj → TS
def hEnds (sl : Option Nat) (D : Ends) : Ends := match sl with
  | none => D
  | some i => { nx := fun τ G => D.nx (τ.set i none) G, rt := D.rt, bk := fun τ G => D.bk (τ.set i none) G, ct := fun τ G => D.ct (τ.set i none) G }
def hSlot (sl : Option Nat) (a : Addr) (σ : L2.St) : L2.St := match sl with
  | none => σ
  | some i => σ.set i (some (.ref a))
/-- what the clauses wish of an exception of the body -/
def wG (Kf : PySem.W.Frag) (Wout : WX) (D : Ends) : List (Value × Option Nat × HTs) → WX
  | [] => Wout
  | (c, sl, ts) :: r => fun cls d σ H => ∃ b, PySem.W.exmOne Kf cls c = some b ∧ (b = true → ∀ a oe, H a = none → oe.cls = cls → oe.dict = d → (∃ vs, oe.data = .fields vs) → ts a oe (hEnds sl D) (hSlot sl a σ) H) ∧ (b = false → wG Kf Wout D r cls d σ H)
def NmOk (X : Cx) (nm : Option Str) (sl : Option Nat) : Prop := match nm, sl with
  | none, none => True
  | some n, some i => X.N[i]? = some n ∧ X.env.kindOf n = some .local
  | _, _ => False
inductive HdG (X : Cx) : List ExceptHandler → List (Value × Option Nat × HTs) → Prop
  | nil : HdG X [] []
  | cons {x : Str} {c : Value} {nm : Option Str} {sl : Option Nat} {ts : HTs} {b0 : Stmt} {bs : List Stmt} {p1 p2 : Pos} {hds : List ExceptHandler} {l : List (Value × Option Nat × HTs)} (hc : Names X x c) (hn : NmOk X nm sl)
      (hsu : ∀ (a : Addr) (oe : Obj) (pn : List (Addr × Obj)), (∃ vs, oe.data = .fields vs) → PSs (X.suite a ((a, oe) :: pn)) (b0 :: bs) (ts a oe)) (r : HdG X hds l) :
      HdG X (.ExceptHandler (some (.Name x p1)) nm (b0 :: bs) p2 :: hds) ((c, sl, ts) :: l)
section
variable {X : Cx} {body : List Stmt} {h0 : ExceptHandler} {hds : List ExceptHandler} {l : List (Value × Option Nat × HTs)} {pos : Pos} {tb : WX → TS} {Wout : WX}
theorem ps_tryG (hstk : X.stack = X.env :: X.outer) (hfrm : X.env.frame = some X.env.locals) (hN : X.N.Nodup) (tk : Takes X Wout)
    (hb : ∀ (V : WX) (qn : List (Addr × Obj)) (ee : Value → Shared → Prop), Takes (X.tr qn ee) V → PassesOwn (model X.prog X.w) X.A X.env ee → PSs (X.tr qn ee) body (tb V))
    (hh : HdG X (h0 :: hds) l) : PS X (.Try body (h0 :: hds) [] [] pos) (fun D σ H => tb (wG X.K Wout D l) D σ H) := by
  refine ⟨fun pins s σ H D I hrd => ?_⟩
  have iok := I.ok
  have frm : X.A.frames = some (X.env :: X.outer) := by rw [iok.frames, hstk]
  refine wpAny_Try_except ?_
  have bodyRun := (hb (wG X.K Wout D l) (X.pn ++ pins) (fun ex t1 => wpAny (model X.prog X.w) X.A (noteFrame ex X.env) (fun _ t2 => wpAny (model X.prog X.w) X.A (setFlight ex none) (fun _ t3 =>
    wpAny (model X.prog X.w) X.A (handleBy ex X.env (h0 :: hds)) (SP X pins D) X.xe t3) X.xe t2) X.xe t1) (fun u t1 air => ?_) PassesOwn.looking).run [] s σ H D (I.toTry _) hrd
  · refine wpAny_mono bodyRun (fun fl t1 spq => ?_) fun ex t1 q => q
    cases fl with
    | next => obtain ⟨τ, G, J, q⟩ := spq; exact wpAny_execs_nil ⟨τ, G, J.ofTry iok, q⟩
    | brk => obtain ⟨τ, G, J, q⟩ := spq; exact ⟨τ, G, J.ofTry iok, q⟩
    | cont => obtain ⟨τ, G, J, q⟩ := spq; exact ⟨τ, G, J.ofTry iok, q⟩
    | ret u => obtain ⟨v, τ, G, J, rv, q⟩ := spq; exact ⟨v, τ, G, J.ofTry iok, rv, q⟩
  · obtain ⟨a, B, sI, pn1, τ, G, cls, dx, rfl, I1, nb, ups, sky, na, eos, abr, wish⟩ := air
    have I2 : Inv X pins τ G sI := I1.ofTry iok
    have sky2 : Sky B (X.env :: X.outer) a (Zc cls dx) X.env.locals t1.heap := by rw [← hstk]; exact sky
    show wpAny (model X.prog X.w) X.A (noteFrame (.ref a) X.env) _ _ t1
    refine Sky.land Zc.steady frm hfrm sky2 fun hp3 land3 up3 => ?_
    have I3 : Inv X pins τ G { t1 with heap := hp3 } := I2.landed nb land3.1 (ups.trans up3) eos abr
    obtain ⟨ob3, fv3, get3, zc3, dat3⟩ := land3.there
    have outF : ∀ {hq : Heap} {o : Obj} {fv : Array Value}, hq.FunFrames B (X.env :: X.outer) → hq.get? a = some o → o.data = .fields fv → a ∉ frs (X.env :: X.outer) := fun {hq o fv} ff ge dd hm => by
      obtain ⟨_, o2, ge2, nf⟩ := ff.mem hm
      rw [ge] at ge2
      cases ge2
      exact nf _ dd
    have nfr := outF land3.2.2.1 get3 dat3
    have aL : a ≠ X.env.locals := fun z => nfr (List.mem_filterMap.mpr ⟨X.env, List.mem_cons_self, by rw [hfrm, z]⟩)
    have aF : a ∉ X.fs := fun hm => by
      obtain ⟨fe, hfe, q⟩ := List.mem_filterMap.mp hm
      exact nfr (List.mem_filterMap.mpr ⟨fe, List.mem_cons_of_mem _ hfe, q⟩)
    have S3 := I3.suite get3 dat3 na aL aF
    have walk : ∀ {hq : List ExceptHandler} {lq : List (Value × Option Nat × HTs)}, HdG X hq lq → wG X.K Wout D lq cls dx τ G → wpAny (model X.prog X.w) X.A (handleBy (.ref a) X.env hq) (SP X pins D) X.xe { t1 with heap := hp3 } := by
      intro hq lq hk
      induction hk with
      | nil =>
        intro wsh
        refine wpAny_handleBy_nil ?_
        obtain ⟨y1, y2, y3, obj, fv, TB, oTB, tsl, gob, zob, dob, fv1, rest⟩ := id land3
        have out : wpAny (model X.prog X.w) X.A (setFlight (.ref a) X.env.frame) (fun _ t4 => wpAny (model X.prog X.w) X.A (throw (.ref a) : Sem Flow) (SP X pins D) X.xe t4) X.xe { t1 with heap := hp3 } := by
          rw [hfrm]
          refine HandSPX.setFlight_upZ land3 fun hp4 fly4 up4 => wpAny_throw (tk _ _ ?_)
          exact ⟨a, B, sI, pins, τ, G, cls, dx, rfl, I2, nb, (ups.trans up3).trans up4, .inr (.inr (by rw [hstk]; exact fly4)), na, eos, abr, wsh⟩
        unfold PySem.passOn; refine wpAny_bind (wpAny_field gob dob fv1 ?_)
        rw [if_neg (show ¬ ((Value.ref TB == Value.none) = true) by simp)]
        first
          | exact wpAny_bind (wpAny_pure (wpAny_bind out))
          | exact wpAny_bind out
      | @cons x c nm sl ts b0 bs p1 p2 hq2 lq2 hc hn hsu rr ih =>
        intro wsh
        obtain ⟨b, hm1, yes, no⟩ := wsh
        refine wpAny_handleBy_cons (codeAny_handlers_test ?_) (by intro q; cases q)
        have LT : PySem.W.Looks (model X.prog X.w) hp3 (typeOf (.ref a)) cls := fun A' Q' E' sq kp q => wpAny_typeOf_ref (kp _ _ get3) (by rw [zc3.1]; exact q)
        have LM := PySem.W.exm_one (M := model X.prog X.w) I3.kIn LT hm1
        have name : ∀ {Q' : Value → Shared → Prop} {E' : Value → Shared → Prop}, Q' c { t1 with heap := hp3 } → wpAny (model X.prog X.w) (X.A.mark (some (.ref a))) (eval (.Name x p1) X.env) Q' E' { t1 with heap := hp3 } := fun {Q' E'} q => by
          obtain ⟨hgl, hdb, hmg | ⟨hmg, hbt, hnn⟩⟩ := hc
          · exact ld_glob (X := X.suite a ((a, ob3) :: (X.pn ++ pins))) S3 hgl hmg q hdb
          · exact ld_blt (X := X.suite a ((a, ob3) :: (X.pn ++ pins))) S3 hgl hmg hbt q hnn hdb
        refine name (LM.here ?_)
        cases b with
        | false => exact ih (no rfl)
        | true =>
          have inS : ∀ {τ6 : L2.St} {G6 : Hp} {t6 : Shared} {o6 : Obj}, Inv (X.suite a ((a, o6) :: (X.pn ++ pins))) [] τ6 G6 t6 → Inv X pins τ6 G6 t6 := fun {τ6 G6 t6 o6} J => J.unsuite iok
          cases nm with
          | none =>
            cases sl with
            | some _ => exact hn.elim
            | none =>
              refine codeAny_handlers_suite ?_
              refine HandSPX.lands_againZ land3 fun hp4 land4 up4 => ?_
              have I4 : Inv X pins τ G { t1 with heap := hp4 } := I2.landed nb land4.1 ((ups.trans up3).trans up4) eos abr
              obtain ⟨ob4, fv4, get4, zc4, dat4⟩ := land4.there
              have S4 := I4.suite get4 dat4 na aL aF
              refine wpAny_mono ((hsu a ob4 (X.pn ++ pins) ⟨_, dat4⟩).run [] _ _ G _ S4 (yes rfl a ob4 na zc4.1 zc4.2 ⟨_, dat4⟩)) (fun fl t6 spq => ?_) fun _ _ z => False.elim z
              cases fl with
              | next => obtain ⟨τ6, G6, J, q⟩ := spq; exact ⟨_, _, inS J, q⟩
              | brk => obtain ⟨τ6, G6, J, q⟩ := spq; exact ⟨_, _, inS J, q⟩
              | cont => obtain ⟨τ6, G6, J, q⟩ := spq; exact ⟨_, _, inS J, q⟩
              | ret u => obtain ⟨v6, τ6, G6, J, rv, q⟩ := spq; exact ⟨_, _, _, inS J, rv, q⟩
          | some n =>
            cases sl with
            | none => exact hn.elim
            | some i =>
              obtain ⟨hi, hln⟩ := hn
              refine codeAny_handlers_suite_as ?_
              refine HandSPX.lands_againZ land3 fun hp4 land4 up4 => ?_
              have I4 : Inv X pins τ G { t1 with heap := hp4 } := I2.landed nb land4.1 ((ups.trans up3).trans up4) eos abr
              obtain ⟨ob4, fv4, get4, zc4, dat4⟩ := land4.there
              have S4 := I4.suite get4 dat4 na aL aF
              refine store_ok (X := X.suite a ((a, ob4) :: (X.pn ++ pins))) (v := .ref a) S4 hN hi (.inl hln) rfl (fun t5 S5 => ?_) (.inr hln)
              refine wpAny_mono ((hsu a ob4 (X.pn ++ pins) ⟨_, dat4⟩).run [] t5 _ G _ S5 (yes rfl a ob4 na zc4.1 zc4.2 ⟨_, dat4⟩)) (fun fl t6 spq => ?_) fun _ _ z => False.elim z
              have gone : ∀ {τ6 : L2.St} {G6 : Hp} {Q' : Shared → Prop}, Inv (X.suite a ((a, ob4) :: (X.pn ++ pins))) [] τ6 G6 t6 → (∀ t7, Inv X pins (τ6.set i none) G6 t7 → Q' t7) →
                  wpAny (model X.prog X.w) X.A (do bindName X.env n .none; unbindBehindTheSuite X.env n p2) (fun _ t7 => Q' t7) X.xe t6 := fun {τ6 G6 Q'} J hq => gone_ok (inS J) hN hi hln hq
              cases fl with
              | next => obtain ⟨τ6, G6, J, q⟩ := spq; exact gone J fun t7 J7 => ⟨_, _, J7, q⟩
              | brk => obtain ⟨τ6, G6, J, q⟩ := spq; exact gone J fun t7 J7 => ⟨_, _, J7, q⟩
              | cont => obtain ⟨τ6, G6, J, q⟩ := spq; exact gone J fun t7 J7 => ⟨_, _, J7, q⟩
              | ret u => obtain ⟨v6, τ6, G6, J, rv, q⟩ := spq; exact gone J fun t7 J7 => ⟨_, _, _, J7, rv, q⟩
    exact walk hh wish
end
end Uq

set_option maxHeartbeats 2000000
/-! Uq, part s: suites behind an except. -/
namespace Uq
open PySem PySem.Spec PyProof.Rows L2
/-- what a suite knows: the exception at a, its object oe -/
def Pg.hot (P : Pg) (a : Addr) (oe : Obj) (sl : Option Nat) : Pg := { P with xa := fun i a' c dd => sl = some i ∧ a' = a ∧ oe.cls = .ref (P.CA c) ∧ oe.dict = some dd ∧ c ∈ P.rz }
/-- isinstance(e, C) -/
def rIsD (Kf : PySem.W.Frag) (a : Addr) (oe : Obj) : List V → Hp → VK → Prop := fun xs H Q => ∃ (C dd : Addr) (c : V) (cv : Value) (fs : List (Str × V)) (b : Bool), xs = [.ref a, c] ∧ (∀ u, RelV c u → u = cv) ∧ oe.cls = .ref C ∧ oe.dict = some dd ∧ H dd = some (.xd fs) ∧ ExcC Kf C ∧ PySem.W.kitOne Kf (.ref C) cv = some b ∧ Q (.bl b) H
theorem call_isD {X : Cx} {a : Addr} {oe : Obj} {pn : List (Addr × Obj)} (hf : ∃ vs, oe.data = .fields vs) : CallR (X.suite a ((a, oe) :: pn)) (.builtin "isinstance") (rIsD X.K a oe) := by
  intro pins s σ H xs us Q I r h
  obtain ⟨C, dd, c, cv, fs, b, rfl, hcv, hcl, hdi, hdd, xc, e, q⟩ := h
  obtain ⟨u1, u2, rfl, r1, r2⟩ := vals2 r
  cases (show u1 = Value.ref a from r1)
  have ecv := hcv u2 r2
  subst ecv
  have get := (I.pin (a, oe) (List.mem_append_left _ List.mem_cons_self)).1
  obtain ⟨fv, hv⟩ := hf
  obtain ⟨mA, hns, _⟩ := (show ObjOk X.prog X.w H s.heap dd (.xd fs) from I.hok dd _ hdd)
  obtain ⟨od, ho, _⟩ := lookIn_ns hns
  have inst : PySem.W.InstAt s.heap a oe C (some od) := ⟨get, hcl, by unfold PySem.W.notCls; rw [hv] <;> rfl, by rw [hdi]; exact ho⟩
  have hclI : (PySem.W.clsIn X.K C).isSome = true := by
    obtain ⟨cd, hc, _⟩ := PySem.W.any_some xc.hd
    rw [hc]; rfl
  exact PySem.W.kia_one (PySem.W.kitx_exc hclI xc.hg xc.hk xc.hs xc.ha xc.hn xc.ht xc.hm) I.kIn inst e (fun z => nomatch z) fun tk => ⟨.bl b, H, I.tok tk, rfl, q⟩
theorem All2.app {α β : Type} {R : α → β → Prop} : ∀ {as as2 : List α} {bs bs2 : List β}, All2 R as bs → All2 R as2 bs2 → All2 R (as ++ as2) (bs ++ bs2)
  | _, _, _, _, .nil, z => z
  | _, _, _, _, .cons h t, z => .cons h (All2.app t z)
theorem All2.rev {α β : Type} {R : α → β → Prop} : ∀ {as : List α} {bs : List β}, All2 R as bs → All2 R as.reverse bs.reverse
  | _, _, .nil => .nil
  | _, _, .cons h t => by
    rw [List.reverse_cons, List.reverse_cons]
    exact (All2.rev t).app (.cons h .nil)
theorem zip_all2 {K : PySem.W.Frag} {S : Addr → Prop} {H : Hp} : ∀ (fl : List Str) {ds : List D} {vs : List V}, Rps K S H ds vs → All2 (fun (p : Str × D) (q : Str × V) => p.1 = q.1 ∧ Rp K S H p.2 q.2) (fl.zip ds) (fl.zip vs)
  | [], ds, vs, _ => .nil
  | f :: fl, [], vs, h => by simp only [Rps] at h; subst h; exact .nil
  | f :: fl, d :: ds, vs, h => by
    simp only [Rps] at h
    obtain ⟨v, r, rfl, h1, h2⟩ := h
    exact .cons ⟨rfl, h1⟩ (zip_all2 fl h2)
theorem all2_look {K : PySem.W.Frag} {S : Addr → Prop} {H : Hp} {f : Str} {d : D} : ∀ {as : List (Str × D)} {bs : List (Str × V)}, All2 (fun (p : Str × D) (q : Str × V) => p.1 = q.1 ∧ Rp K S H p.2 q.2) as bs → as.lookup f = some d → ∃ v, bs.lookup f = some v ∧ Rp K S H d v
  | _, _, .nil, h => by cases h
  | (x, d0) :: as, (y, v0) :: bs, .cons ⟨e, r⟩ t, h => by
    have e : x = y := e
    subst e
    rw [List.lookup_cons] at h ⊢
    split at h
    · cases h
      exact ⟨v0, rfl, r⟩
    · exact all2_look t h
theorem look_mem {f : Str} {d : D} : ∀ {as : List (Str × D)}, as.lookup f = some d → ∃ p ∈ as, p.1 = f
  | [], h => by cases h
  | (x, d0) :: as, h => by
    rw [List.lookup_cons] at h
    split at h
    · rename_i e
      exact ⟨_, List.mem_cons_self, (by simpa using e : f = x).symm⟩
    · obtain ⟨p, hp, e⟩ := look_mem h
      exact ⟨p, List.mem_cons_of_mem _ hp, e⟩
section
variable {cf : Cf} {P : Pg} {k : Nat} {cl : Cl} {X : Cx} {a : Addr} {oe : Obj} {pn : List (Addr × Obj)} {x : Str} {p pos : Pos} {i c : Nat} {f : Str} {sl : Option Nat}
theorem hot_slot {Kf : PySem.W.Frag} {S0 : Addr → Prop} {LL : Ow} {ρ : Env} {σ : L2.St} {H : Hp} {fs : List D} (R : Rel Kf (P.hot a oe sl) S0 LL ρ σ H) (e : ρ[i]? = some (.xc c fs)) : σ[i]? = some (some (.ref a)) ∧ oe.cls = .ref (P.CA c) ∧ c ∈ P.rz ∧
    ∃ dd vs, oe.dict = some dd ∧ H dd = some (.xd ((P.flds c).zip vs).reverse) ∧ Rps Kf (SS S0 LL) H fs vs ∧ fs.length = (P.flds c).length := by
  obtain ⟨_, a', dd, vs, ev, ⟨_, rfl, h1, h2, h3⟩, hd, r, l⟩ := R.slot i _ e
  refine ⟨?_, h1, h3, dd, vs, h2, hd, r, l⟩
  cases q : σ[i]? with
  | none => rw [q] at ev; cases ev
  | some w => rw [q] at ev; exact congrArg some ev
/-- e.f -/
theorem h_xf (G : Gd X cf P cl k) (hf : ∃ vs, oe.data = .fields vs) (hi : X.N[i]? = some x) (hv : Vis X.env.scope x) (hd : (x == ("__debug__" : Str)) = false) (hcd : (x == ("__classdict__" : Str)) = false) :
    PE (X.suite a ((a, oe) :: pn)) (.Attribute (.Name x p) f pos) (tE X.K (P.hot a oe sl) cl W0 (.xf i f)) := by
  refine ⟨fun pins s σ H Q I h => ?_⟩
  obtain ⟨S0, LL, ρ, q, e, R, hw, hq, he⟩ := h
  unfold wE at hw
  cases eo : ρ[i]? with
  | none => rw [eo] at hw; exact hw.elim
  | some sl =>
    rw [eo] at hw
    cases sl <;> first | exact hw.elim | skip
    rename_i c fs
    obtain ⟨d, hl, hqd⟩ := hw
    rw [G.fl] at hl
    obtain ⟨h1, h2, h3, dd, vs, h4, h5, r, l⟩ := hot_slot R eo
    obtain ⟨v, hlv, rv⟩ := all2_look (zip_all2 (P.flds c) r).rev hl
    obtain ⟨x1, x2, x3⟩ := G.exc c h3
    have hm : f ∈ P.flds c := by
      obtain ⟨z, hz, ez⟩ := look_mem hl
      rw [← ez]
      exact (List.of_mem_zip (List.mem_reverse.mp hz)).1
    refine (pe_xf (pn := pn) (pos := pos) x2 (x3 f hm) ⟨h2, h4⟩ hf (pe_var (X := X.suite a ((a, oe) :: pn)) (pos := p) hi hv hd hcd) rfl).run pins s σ H Q I ?_
    exact ⟨_, h1, rfl, rfl, dd, _, v, rfl, h5, hlv, hq d v H (Same.refl _) (.fls (rv.wide fun _ _ _ z => z.nm)) hqd⟩
/-- isinstance(e, C) -/
theorem h_xis {y z : Str} {p2 p3 : Pos} (G : Gd X cf P cl k) (hf : ∃ vs, oe.data = .fields vs) (hg : Gl X "isinstance") (hi : X.N[i]? = some y) (hv : Vis X.env.scope y) (hd : (y == ("__debug__" : Str)) = false) (hcd : (y == ("__classdict__" : Str)) = false)
    (hz : cf.xcI z = some c) (hgz : Gl X z) (hdz : (z == ("__debug__" : Str)) = false) : PE (X.suite a ((a, oe) :: pn)) (.Call (.Name "isinstance" p) [.Name y p2, .Name z p3] [] pos) (tE X.K (P.hot a oe sl) cl W0 (.xis i c)) := by
  refine peI (pe_callB (X := X.suite a ((a, oe) :: pn)) (call_isD hf) hg (G.b (by decide)) isi_boot (pa_cons (pe_var (X := X.suite a ((a, oe) :: pn)) hi hv hd hcd) (pa_cons (pe_glob (X := X.suite a ((a, oe) :: pn)) (v := .ref (P.CA c)) hgz (G.xc z c hz) rfl hdz) pa_nil rfl) rfl) (by decide) (by decide) rfl rfl) fun σ H Q h => ?_
  obtain ⟨S0, LL, ρ, q, e, R, hw, hq, he⟩ := h
  unfold wE at hw
  cases eo : ρ[i]? with
  | none => rw [eo] at hw; exact hw.elim
  | some sl =>
    rw [eo] at hw
    cases sl <;> first | exact hw.elim | skip
    rename_i c2 fs
    obtain ⟨h1, h2, h3, dd, vs, h4, h5, r, l⟩ := hot_slot R eo
    exact ⟨_, h1, _, dd, _, _, _, _, rfl, fun u z => z, h2, h4, h5, (G.exc c2 h3).1, (G.sub c2 h3 z c hz).2, hq _ _ H (Same.refl _) res_bl hw⟩
theorem ve_boot : bootBuiltins "ValueError" = some (.type "ValueError") := by decide +kernel
/-- isinstance(e, ValueError) -/
theorem h_xisV {y : Str} {p2 p3 : Pos} (G : Gd X cf P cl k) (hf : ∃ vs, oe.data = .fields vs) (hg : Gl X "isinstance") (hi : X.N[i]? = some y) (hv : Vis X.env.scope y) (hd : (y == ("__debug__" : Str)) = false) (hcd : (y == ("__classdict__" : Str)) = false)
    (hgz : Gl X "ValueError") : PE (X.suite a ((a, oe) :: pn)) (.Call (.Name "isinstance" p) [.Name y p2, .Name "ValueError" p3] [] pos) (tE X.K (P.hot a oe sl) cl W0 (.xis i 1000)) := by
  refine peI (pe_callB (X := X.suite a ((a, oe) :: pn)) (call_isD hf) hg (G.b (by decide)) isi_boot (pa_cons (pe_var (X := X.suite a ((a, oe) :: pn)) hi hv hd hcd) (pa_cons (pe_bltn (X := X.suite a ((a, oe) :: pn)) (v := .ty "ValueError") hgz (G.b (by decide)) ve_boot rfl (by decide) (by decide)) pa_nil rfl) rfl) (by decide) (by decide) rfl rfl) fun σ H Q h => ?_
  obtain ⟨S0, LL, ρ, q, e, R, hw, hq, he⟩ := h
  unfold wE at hw
  cases eo : ρ[i]? with
  | none => rw [eo] at hw; exact hw.elim
  | some sl =>
    rw [eo] at hw
    cases sl <;> first | exact hw.elim | skip
    rename_i c2 fs
    obtain ⟨h1, h2, h3, dd, vs, h4, h5, r, l⟩ := hot_slot R eo
    exact ⟨_, h1, _, dd, _, _, _, _, rfl, fun u z => z, h2, h4, h5, (G.exc c2 h3).1, G.subV c2 h3, hq _ _ H (Same.refl _) res_bl hw⟩
end
end Uq

set_option maxHeartbeats 2000000
/-! Uq, part t: a suite's expressions and statements. -/
namespace Uq
open PySem PySem.Spec PyProof.Rows L2
section
variable {cf : Cf} {P : Pg} {k : Nat} {cl : Cl} {X : Cx} {ea : Addr} {oe : Obj} {pn : List (Addr × Obj)} {sl : Option Nat}
mutual
theorem hC (G : Gd X cf P cl k) (hf : ∃ vs, oe.data = .fields vs) {sc : Scope} (eS : X.env.scope = sc) : ∀ (c : C) {e : Expr}, hotC c = true → chkE cf c sc e = true → Run (X.suite ea ((ea, oe) :: pn)) (P.hot ea oe sl) cl W0 c e
  | .var i, e, hh, h => by
    simp only [chkE] at h
    unfold mVar at h
    split at h
    · simp only [Bool.and_eq_true, decide_eq_true_eq, Bool.not_eq_true', decide_eq_false_iff_not] at h
      obtain ⟨⟨⟨h1, h2⟩, h3⟩, h4⟩ := h
      exact Run.of (e_var (X := X.suite ea ((ea, oe) :: pn)) (by show X.N[i]? = _; rw [G.eN]; exact h1) (vis_of (X := X) h2 eS) (bne_ h3) (bne_ h4)) (fun _ => rfl) fun op vs p q => by cases q
    · cases h
  | .non, e, hh, h => by
    simp only [chkE] at h
    unfold mNon at h
    split at h
    · exact Run.of e_non (fun _ => rfl) fun op vs p q => by cases q
    · cases h
  | .bl b, e, hh, h => by
    simp only [chkE] at h
    unfold mBl at h
    split at h
    · obtain rfl := of_decide_eq_true h
      exact Run.of e_bl (fun _ => rfl) fun op vs p q => by cases q
    · cases h
  | .int i, e, hh, h => by
    simp only [chkE] at h
    unfold mInt at h
    split at h
    · obtain rfl := of_decide_eq_true h
      exact Run.of e_int (fun _ => rfl) fun op vs p q => by cases q
    · cases h
  | .str x, e, hh, h => by
    simp only [chkE] at h
    unfold mStr at h
    split at h
    · obtain rfl := of_decide_eq_true h
      exact Run.of e_str (fun _ => rfl) fun op vs p q => by cases q
    · cases h
  | .not a, e, hh, h => by
    simp only [hotC] at hh
    simp only [chkE] at h
    unfold mNot at h
    split at h
    · have r := hC G hf eS a hh h
      exact Run.of2 (e_not r.pe) (t_not r.pt) fun op vs p q => by cases q
    · cases h
  | .and a b, e, hh, h => by
    simp only [hotC, Bool.and_eq_true] at hh
    simp only [chkE] at h
    unfold mAnd at h
    split at h
    · simp only [Bool.and_eq_true] at h
      obtain ⟨h1, h2⟩ := h
      have ra := hC G hf eS a hh.1 h1
      rename_i x y r p
      have rb : PE (X.suite ea ((ea, oe) :: pn)) (.BoolOp .And (y :: r) p) (tE X.K (P.hot ea oe sl) cl W0 b) ∧ PW (X.suite ea ((ea, oe) :: pn)) (.BoolOp .And (y :: r) p) (tT X.K (P.hot ea oe sl) cl W0 b) := by
        unfold mRest at h2
        split at h2
        · have rb := hC G hf eS b hh.2 h2
          exact ⟨pe_one rb.pe, pw_and1 rb.pt⟩
        · have rb := hC G hf eS b hh.2 h2
          exact ⟨rb.pe, rb.pw _ _ _ rfl⟩
      have w := t_and ra.pt rb.2
      exact ⟨e_and ra.pe rb.1, w.pt, fun op vs p q => by cases q; exact w⟩
    · cases h
  | .or a b, e, hh, h => by
    simp only [hotC, Bool.and_eq_true] at hh
    simp only [chkE] at h
    unfold mOr at h
    split at h
    · simp only [Bool.and_eq_true] at h
      obtain ⟨h1, h2⟩ := h
      have ra := hC G hf eS a hh.1 h1
      rename_i x y r p
      have rb : PE (X.suite ea ((ea, oe) :: pn)) (.BoolOp .Or (y :: r) p) (tE X.K (P.hot ea oe sl) cl W0 b) ∧ PW (X.suite ea ((ea, oe) :: pn)) (.BoolOp .Or (y :: r) p) (tT X.K (P.hot ea oe sl) cl W0 b) := by
        unfold mRest at h2
        split at h2
        · have rb := hC G hf eS b hh.2 h2
          exact ⟨pe_one rb.pe, pw_or1 rb.pt⟩
        · have rb := hC G hf eS b hh.2 h2
          exact ⟨rb.pe, rb.pw _ _ _ rfl⟩
      have w := t_or ra.pt rb.2
      exact ⟨e_or ra.pe rb.1, w.pt, fun op vs p q => by cases q; exact w⟩
    · cases h
  | .cmp o a b, e, hh, h => by
    simp only [hotC, Bool.and_eq_true] at hh
    simp only [chkE] at h
    unfold mCmp at h
    split at h
    · simp only [Bool.and_eq_true] at h
      obtain ⟨h1, h2, h3⟩ := h
      rw [opC_to h1]
      have ra := hC G hf eS a hh.1 h2
      have rb := hC G hf eS b hh.2 h3
      have hu : X.A.units + 64 < cLine := by have := G.hu; omega
      exact Run.of2 (e_cmp hu ra.pe rb.pe) (t_cmp hu ra.pe rb.pe) fun op vs p q => by cases q
    · cases h
  | .isN n a, e, hh, h => by
    simp only [hotC] at hh
    simp only [chkE] at h
    unfold mIsN at h
    split at h
    · simp only [Bool.and_eq_true] at h
      obtain ⟨h1, h2⟩ := h
      have ra := (hC G hf eS a hh h2).pe
      rename_i o j p1 p2
      have eo : o = if n = true then .IsNot else .Is := by
        unfold isOp at h1
        split at h1 <;> first | (cases n <;> first | rfl | cases h1) | cases h1
      rw [eo]
      exact Run.of2 (e_isN ra) (t_isN ra) fun op vs p q => by cases q
    · cases h
  | .isB n b a, e, hh, h => by
    simp only [hotC] at hh
    simp only [chkE] at h
    unfold mIsB at h
    split at h
    · simp only [Bool.and_eq_true, decide_eq_true_eq] at h
      obtain ⟨rfl, h1, h2⟩ := h
      have ra := (hC G hf eS a hh h2).pe
      rename_i o j p1 p2
      have eo : o = if n = true then .IsNot else .Is := by
        unfold isOp at h1
        split at h1 <;> first | (cases n <;> first | rfl | cases h1) | cases h1
      rw [eo]
      exact Run.of2 (e_isB ra) (t_isB ra) fun op vs p q => by cases q
    · cases h
  | .tup cs, e, hh, h => by
    simp only [hotC] at hh
    simp only [chkE] at h
    unfold mTup at h
    split at h
    · simp only [Bool.and_eq_true, decide_eq_true_eq] at h
      exact Run.of (e_tup h.2 (args_pa (hCs G hf eS cs hh h.1))) (fun _ => rfl) fun op vs p q => by cases q
    · cases h
  | .xf i f, e, hh, h => by
    simp only [chkE] at h
    unfold mXf at h
    split at h
    · simp only [Bool.and_eq_true, decide_eq_true_eq, Bool.not_eq_true', decide_eq_false_iff_not] at h
      obtain ⟨h1, h2, rfl, h3, h4⟩ := h
      exact Run.of (h_xf G hf (by rw [G.eN]; exact h1) (vis_of h2 eS) (bne_ h3) (bne_ h4)) (fun _ => rfl) fun op vs p q => by cases q
    · cases h
  | .xis i c, e, hh, h => by
    simp only [chkE] at h
    unfold mXis at h
    split at h
    · simp only [Bool.and_eq_true, Bool.or_eq_true, decide_eq_true_eq, Bool.not_eq_true', decide_eq_false_iff_not] at h
      obtain ⟨rfl, h2, h3, h4, h5, h6, h7, h8, h9⟩ := h
      rcases h5 with h5 | ⟨rfl, rfl⟩
      · exact Run.of (h_xis G hf (gl_of h2 eS) (by rw [G.eN]; exact h3) (vis_of h4 eS) (bne_ h8) (bne_ h9) h5 (gl_of h6 eS) (bne_ h7)) (fun _ => rfl) fun op vs p q => by cases q
      · exact Run.of (h_xisV G hf (gl_of h2 eS) (by rw [G.eN]; exact h3) (vis_of h4 eS) (bne_ h8) (bne_ h9) (gl_of h6 eS)) (fun _ => rfl) fun op vs p q => by cases q
    · cases h
  | .bin _ _ _, e, hh, h => by simp only [hotC, Bool.false_eq_true] at hh
  | .neg _, e, hh, h => by simp only [hotC, Bool.false_eq_true] at hh
  | .chn _ _ _ _ _, e, hh, h => by simp only [hotC, Bool.false_eq_true] at hh
  | .mem _ _ _, e, hh, h => by simp only [hotC, Bool.false_eq_true] at hh
  | .ite _ _ _, e, hh, h => by simp only [hotC, Bool.false_eq_true] at hh
  | .lst _, e, hh, h => by simp only [hotC, Bool.false_eq_true] at hh
  | .ix _ _, e, hh, h => by simp only [hotC, Bool.false_eq_true] at hh
  | .sl _ _ _, e, hh, h => by simp only [hotC, Bool.false_eq_true] at hh
  | .rev _, e, hh, h => by simp only [hotC, Bool.false_eq_true] at hh
  | .call _ _ _, e, hh, h => by simp only [hotC, Bool.false_eq_true] at hh
  | .callv _ _, e, hh, h => by simp only [hotC, Bool.false_eq_true] at hh
  | .bi _ _, e, hh, h => by simp only [hotC, Bool.false_eq_true] at hh
  | .isi _ _, e, hh, h => by simp only [hotC, Bool.false_eq_true] at hh
  | .lc _ _ _ _ _, e, hh, h => by simp only [hotC, Bool.false_eq_true] at hh
theorem hCs (G : Gd X cf P cl k) (hf : ∃ vs, oe.data = .fields vs) {sc : Scope} (eS : X.env.scope = sc) : ∀ (cs : List C) {es : List Expr}, hotC.hotCs cs = true → chkEs cf cs sc es = true → All2 (AEx (X.suite ea ((ea, oe) :: pn)) (P.hot ea oe sl) cl W0) cs es
  | [], es, hh, h => by
    simp only [chkEs] at h
    cases es with
    | nil => exact .nil
    | cons _ _ => cases h
  | c :: cs, es, hh, h => by
    simp only [hotC.hotCs, Bool.and_eq_true] at hh
    simp only [chkEs] at h
    unfold mCons at h
    split at h
    · simp only [Bool.and_eq_true] at h
      have r := hC G hf eS c hh.1 h.1
      exact .cons ⟨h.2.1, r.pe, r.pt⟩ (hCs G hf eS cs hh.2 h.2.2)
    · cases h
end
mutual
theorem hS (G : Gd X cf P cl k) (At0 : At X X.env.scope) (hf : ∃ vs, oe.data = .fields vs) {sc : Scope} (eS : X.env.scope = sc) : ∀ (s : S) {st : Stmt}, hotS s = true → chkS cf sc s st = true → PS (X.suite ea ((ea, oe) :: pn)) st (tS X.K (P.hot ea oe sl) cl W0 s)
  | .asg i e, st, hh, h => by
    simp only [hotS] at hh
    simp only [chkS] at h
    unfold nAsg at h
    split at h
    · simp only [Bool.and_eq_true] at h
      obtain ⟨h1, h2, h3⟩ := h
      unfold chkNm at h1
      simp only [Bool.and_eq_true, decide_eq_true_eq] at h1
      obtain ⟨l, f⟩ := At0.st _ (by rw [eS]; exact h1.2)
      refine s_asg (X := X.suite ea ((ea, oe) :: pn)) G.nd (by show X.N[i]? = _; rw [G.eN]; exact h1.1) l f (hC G hf eS e hh h3).pe ?_
      rcases Bool.or_eq_true_iff.mp h2 with z | z
      · exact sw_plain z
      · rename_i e' _
        unfold isLC at z
        split at z
        · cases e <;> first | (exfalso; simp [hotC] at hh; done) | (exfalso; simp [chkE, mVar, mNon, mBl, mInt, mStr, mNot, mAnd, mOr, mCmp, mIsN, mIsB, mTup, mXf, mXis] at h3; done)
        · cases z
    · cases h
  | .ret e, st, hh, h => by
    simp only [hotS] at hh
    simp only [chkS] at h
    unfold nRet at h
    split at h
    · exact s_ret (hC G hf eS e hh h).pe
    · cases h
  | .ite c a b, st, hh, h => by
    simp only [hotS, Bool.and_eq_true] at hh
    simp only [chkS] at h
    unfold nIte at h
    split at h
    · simp only [Bool.and_eq_true] at h
      obtain ⟨h1, h2, h3⟩ := h
      exact s_ite (hC G hf eS c hh.1 h1).pt (hSs G At0 hf eS a hh.2.1 h2) (hSs G At0 hf eS b hh.2.2 h3)
    · cases h
  | .pas, st, hh, h => by
    simp only [chkS] at h
    unfold nPas at h
    split at h
    · exact s_pas
    · cases h
  | .brk, st, hh, h => by
    simp only [chkS] at h
    unfold nBrk at h
    split at h
    · exact s_brk
    · cases h
  | .cnt, st, hh, h => by
    simp only [chkS] at h
    unfold nCnt at h
    split at h
    · exact s_cnt
    · cases h
  | .kil _, st, hh, h => by simp only [chkS, Bool.false_eq_true] at h
  | .unp _ _, st, hh, h => by simp only [hotS, Bool.false_eq_true] at hh
  | .par _ _ _ _, st, hh, h => by simp only [hotS, Bool.false_eq_true] at hh
  | .put _ _ _, st, hh, h => by simp only [hotS, Bool.false_eq_true] at hh
  | .app _ _, st, hh, h => by simp only [hotS, Bool.false_eq_true] at hh
  | .ext _ _, st, hh, h => by simp only [hotS, Bool.false_eq_true] at hh
  | .pop _, st, hh, h => by simp only [hotS, Bool.false_eq_true] at hh
  | .popA _ _, st, hh, h => by simp only [hotS, Bool.false_eq_true] at hh
  | .popTo _ _, st, hh, h => by simp only [hotS, Bool.false_eq_true] at hh
  | .aug _ _ _, st, hh, h => by simp only [hotS, Bool.false_eq_true] at hh
  | .exp _, st, hh, h => by simp only [hotS, Bool.false_eq_true] at hh
  | .retN, st, hh, h => by simp only [hotS, Bool.false_eq_true] at hh
  | .fr _ _ _ _, st, hh, h => by simp only [hotS, Bool.false_eq_true] at hh
  | .wh _ _, st, hh, h => by simp only [hotS, Bool.false_eq_true] at hh
  | .rai _ _, st, hh, h => by simp only [hotS, Bool.false_eq_true] at hh
  | .tri _ _ _ _, st, hh, h => by simp only [hotS, Bool.false_eq_true] at hh
theorem hSs (G : Gd X cf P cl k) (At0 : At X X.env.scope) (hf : ∃ vs, oe.data = .fields vs) {sc : Scope} (eS : X.env.scope = sc) : ∀ (ss : List S) {sts : List Stmt}, hotSs ss = true → chkSs cf sc ss sts = true → PSs (X.suite ea ((ea, oe) :: pn)) sts (tSs X.K (P.hot ea oe sl) cl W0 ss)
  | [], sts, hh, h => by
    simp only [chkSs] at h
    cases sts with
    | nil => exact ss_nil
    | cons _ _ => cases h
  | s :: ss, sts, hh, h => by
    simp only [hotSs, hotS.hotSs, Bool.and_eq_true] at hh
    simp only [chkSs] at h
    split at h
    · rename_i ek
      cases s <;> simp only [isKil, Bool.false_eq_true] at ek
      exact ss_kil (hSs G At0 hf eS ss hh.2 h)
    · unfold nCons at h
      split at h
      · simp only [Bool.and_eq_true] at h
        exact ss_cons (hS G At0 hf eS s hh.1 h.1) (hSs G At0 hf eS ss hh.2 h.2)
      · cases h
end
end
end Uq

set_option maxHeartbeats 2000000
/-! Uq, part u: every checked statement runs as its core term says. -/
namespace Uq
open PySem PySem.Spec PyProof.Rows L2
section
variable {K : PySem.W.Frag} {P : Pg} {a : Addr} {oe : Obj} {sl : Option Nat} {S0 : Addr → Prop} {LL : Ow} {ρ : Env} {σ : L2.St} {H : Hp}
theorem RSl.swap {P1 P2 : Pg} {i : Nat} {S : Addr → Prop} {L : List Addr} {s : Sl} {v : Option V} (hx : ∀ c fs, s ≠ .xc c fs) (h : RSl K P1 i S H L s v) : RSl K P2 i S H L s v := by
  cases s with
  | no => exact h
  | va d => exact h
  | ol ds => exact h
  | nl dss => exact h
  | xc c fs => exact absurd rfl (hx c fs)
theorem Rel.swap {P1 P2 : Pg} (hx : ∀ (i c : Nat) (fs : List Uq.D), ρ[i]? ≠ some (Sl.xc c fs)) (R : Rel K P1 S0 LL ρ σ H) : Rel K P2 S0 LL ρ σ H :=
  ⟨R.ln, fun i s e => (R.slot i s e).swap fun c fs z => hx i c fs (by rw [e, z]), R.dj, R.own, R.fr⟩
theorem Rel.cold (h0 : P.xa = xa0) (R : Rel K P S0 LL ρ σ H) : ∀ (i c : Nat) (fs : List Uq.D), ρ[i]? ≠ some (Sl.xc c fs) := fun i c fs => no_xc h0 R
theorem Rel.hotS (R : Rel K (P.hot a oe sl) S0 LL ρ σ H) {i c : Nat} {fs : List D} (e : ρ[i]? = some (.xc c fs)) : sl = some i := by
  obtain ⟨_, a', dd, vs, _, ⟨h, _⟩, _⟩ := R.slot i _ e
  exact h
/-- the suite's end: the name is gone -/
theorem Rel.cool (R : Rel K (P.hot a oe sl) S0 LL ρ σ H) : match sl with
    | none => Rel K P S0 LL ρ σ H
    | some i => ∃ LL', Rel K P S0 LL' (ρ.set i .no) (σ.set i none) H ∧ Fm LL H LL' H := by
  cases sl with
  | none => exact R.swap fun i c fs e => nomatch R.hotS e
  | some i =>
    have R2 := R.setNo i none
    refine ⟨_, R2.swap fun j c fs e => ?_, Fm.less⟩
    have ej := R2.hotS e
    have ej : i = j := Option.some.inj ej
    subst ej
    by_cases h : i < ρ.length
    · rw [List.getElem?_set_self h] at e
      cases e
    · rw [List.getElem?_eq_none (by rw [List.length_set]; omega)] at e
      cases e
end
section
variable {cf : Cf} {P : Pg} {k : Nat} {cl : Cl}
/-- what stands of a def's frame -/
structure Gs (X : Cx) (cf : Cf) (P : Pg) (cl : Cl) (k : Nat) (sc : Scope) : Prop where
  g : Gd X cf P cl k
  eq : X.env.scope = sc
  at_ : At X sc
  po : PassesOwn (model X.prog X.w) X.A X.env X.xe
  kd : X.env.scope.kind = .function
  hs : X.stack = X.env :: X.outer
  hf : X.env.frame = some X.env.locals
theorem Gd.tr {X : Cx} (G : Gd X cf P cl k) (qn : List (Addr × Obj)) (ee : Value → Shared → Prop) : Gd (X.tr qn ee) cf P cl k := ⟨G.eN, G.nd, G.calm, G.rm, G.xa, G.bi, G.k2, G.xc, G.rzE, G.made, G.fl, G.sub, G.subV, G.exc, G.fn, G.fv⟩
theorem Gs.tr {X : Cx} {sc : Scope} (G : Gs X cf P cl k sc) (qn : List (Addr × Obj)) (ee : Value → Shared → Prop) (po : PassesOwn (model X.prog X.w) X.A X.env ee) : Gs (X.tr qn ee) cf P cl k sc := ⟨G.g.tr qn ee, G.eq, ⟨G.at_.st⟩, po, G.kd, G.hs, G.hf⟩
/-- the clauses -/
def hsl (Kf : PySem.W.Frag) (P : Pg) (cl : Cl) : List (List S) → List Nat → List (Option Nat) → List (Value × Option Nat × HTs)
  | b :: bs, c :: cs, v :: vs => (.ref (P.CA c), v, fun a oe => tSs Kf (P.hot a oe v) cl W0 b) :: hsl Kf P cl bs cs vs
  | _, _, _ => []
theorem hsl_nil {Kf : PySem.W.Frag} {hc : List Nat} {hv : List (Option Nat)} : hsl Kf P cl [] hc hv = [] := by cases hc <;> rfl
theorem hd_read {X : Cx} {W : WX} {D : Ends} (G : Gd X cf P cl k) {S0 : Addr → Prop} {LL : Ow} {ρ : Env} {σ : L2.St} {H : Hp} {kk : Uq.K} {c : Nat} {fs : List Uq.D} {cv : Value} {dx : Option Addr} (R : Rel X.K P S0 LL ρ σ H) (hk : EdOk X.K P W S0 LL H kk D) (x : XRp X.K P H c fs cv dx) :
    ∀ (hb : List (List S)) (hc : List Nat) (hv : List (Option Nat)), (∀ h ∈ hc, ∃ z, cf.xcI z = some h) → hb.length = hc.length → hb.length = hv.length → wHs cl hc hv hb c fs ρ kk → wG X.K W D (hsl X.K P cl hb hc hv) cv dx σ H
  | [], hc, hv, _, _, _, h => by
    simp only [wHs] at h
    have e : hsl X.K P cl [] hc hv = [] := by cases hc <;> rfl
    rw [e]
    exact hk.ex c fs cv dx LL ρ σ H R Fm.refl x h
  | b :: bs, [], hv, _, hl, _, h => by simp at hl
  | b :: bs, c0 :: hc, [], _, _, hl, h => by simp at hl
  | b :: bs, c0 :: hc, v :: hv, hz, hl, hl2, h => by
    simp only [wHs] at h
    obtain ⟨hr, dd, vs, rfl, rfl, hd, hno, hrs, hln⟩ := id x
    obtain ⟨z, ez⟩ := hz c0 List.mem_cons_self
    refine ⟨cl.sub c c0, (G.sub c hr z c0 ez).1, fun eb a oe ha h1 h2 hf => ?_, fun eb => ?_⟩
    · rw [if_pos eb] at h
      have cold := R.cold G.xa
      cases v with
      | none =>
        refine ⟨S0, LL, ρ, _, R.swap cold, h, ⟨fun _ _ _ _ R' f q => ?_, hk.rt, fun _ _ _ _ R' f q => ?_, fun _ _ _ _ R' f q => ?_, fun _ _ _ _ _ _ _ _ _ _ _ q => q.elim⟩⟩
        · exact hk.nx _ _ _ _ R'.cool f q
        · exact hk.bk _ _ _ _ R'.cool f q
        · exact hk.ct _ _ _ _ R'.cool f q
      | some i =>
        have R1 : Rel X.K (P.hot a oe (some i)) S0 LL ρ σ H := R.swap cold
        have R2 : Rel X.K (P.hot a oe (some i)) S0 (Lset LL i []) (ρ.set i (.xc c fs)) (σ.set i (some (.ref a))) H :=
          R1.put i _ _ [] (fun _ _ _ h => h.less) (.of_same (Same.refl H)) (fun _ _ _ _ => rfl) ⟨rfl, a, dd, vs, rfl, ⟨rfl, rfl, h1, h2, hr⟩, hd, Rps.noL _ _ hno hrs, hln⟩ (fun _ h => nomatch h) fun _ h => h
        have back : ∀ {Q : L2.St → Hp → Prop} {q : Env → Prop}, (∀ LL' ρ' σ' H', Rel X.K P S0 LL' ρ' σ' H' → Fm LL H LL' H' → q ρ' → Q σ' H') → ∀ LL' ρ' σ' H', Rel X.K (P.hot a oe (some i)) S0 LL' ρ' σ' H' → Fm (Lset LL i []) H LL' H' → q (ρ'.set i .no) → Q (σ'.set i none) H' :=
          fun {Q q} hq LL' ρ' σ' H' R' f hh => let ⟨LL2, R3, f3⟩ := R'.cool; hq LL2 _ _ _ R3 ((Fm.less.trans f).trans f3) hh
        refine ⟨S0, _, _, _, R2, h, ⟨back hk.nx, fun d v LL' H' r f q => hk.rt d v LL' H' r (Fm.less.trans f) q, back hk.bk, back hk.ct, fun _ _ _ _ _ _ _ _ _ _ _ q => q.elim⟩⟩
    · rw [if_neg (by rw [eb]; exact Bool.false_ne_true)] at h
      exact hd_read G R hk x bs hc hv (fun q hq => hz q (List.mem_cons_of_mem _ hq)) (by simpa using hl) (by simpa using hl2) h
theorem chk_hs {X : Cx} {sc : Scope} (G : Gs X cf P cl k sc) : ∀ (hb : List (List S)) (hc : List Nat) (hv : List (Option Nat)) {hds : List ExceptHandler}, chkHs cf sc hb hc hv hds = true →
    HdG X hds (hsl X.K P cl hb hc hv) ∧ (∀ h ∈ hc, ∃ z, cf.xcI z = some h) ∧ hb.length = hc.length ∧ hb.length = hv.length
  | [], hc, hv, hds, h => by
    simp only [chkHs, Bool.and_eq_true, List.isEmpty_iff] at h
    obtain ⟨rfl, rfl, rfl⟩ := h
    exact ⟨.nil, fun _ h => (List.not_mem_nil h).elim, rfl, rfl⟩
  | b :: bs, hc, hv, hds, h => by
    simp only [chkHs] at h
    unfold nHd at h
    split at h
    · rename_i c hc' hv' x p1 st p2 hs'
      simp only [Bool.and_eq_true, decide_eq_true_eq, Bool.not_eq_true', decide_eq_false_iff_not] at h
      obtain ⟨h1, h2, h3, ⟨h4, h5⟩, h6, h7⟩ := h
      obtain ⟨i1, i2, i3, i4⟩ := chk_hs G bs hc' hv' h6
      cases st with
      | nil => cases h7
      | cons b0 st =>
        refine ⟨.cons ⟨gl_of h2 G.eq, bne_ h3, .inl (G.g.xc x c h1)⟩ trivial (fun a oe pn hf => hSs G.g (by rw [G.eq]; exact G.at_) hf G.eq b h4 h5) i1, fun q hq => ?_, by simp [i3], by simp [i4]⟩
        rcases List.mem_cons.mp hq with rfl | hq
        · exact ⟨x, h1⟩
        · exact i2 q hq
    · rename_i c hc' v hv' x p1 n st p2 hs'
      simp only [Bool.and_eq_true, decide_eq_true_eq, Bool.not_eq_true', decide_eq_false_iff_not] at h
      obtain ⟨h1, h2, h8, h9, h3, ⟨h4, h5⟩, h6, h7⟩ := h
      obtain ⟨i1, i2, i3, i4⟩ := chk_hs G bs hc' hv' h6
      cases st with
      | nil => cases h7
      | cons b0 st =>
        refine ⟨.cons ⟨gl_of h2 G.eq, bne_ h3, .inl (G.g.xc x c h1)⟩ ⟨by rw [G.g.eN]; exact h8, by unfold Env.kindOf; rw [G.eq]; exact h9⟩ (fun a oe pn hf => hSs G.g (by rw [G.eq]; exact G.at_) hf G.eq b h4 h5) i1, fun q hq => ?_, by simp [i3], by simp [i4]⟩
        rcases List.mem_cons.mp hq with rfl | hq
        · exact ⟨x, h1⟩
        · exact i2 q hq
    · cases h
end
end Uq

set_option maxHeartbeats 2000000
/-! Uq, part v: every checked statement runs as its core term says. -/
namespace Uq
open PySem PySem.Spec PyProof.Rows L2
section
variable {cf : Cf} {P : Pg} {k : Nat} {cl : Cl}
theorem nm_get {X : Cx} {sc : Scope} (G : Gs X cf P cl k sc) {i : Nat} {x : Str} {p : Pos} (h : chkNm cf sc i (.Name x p) = true) : X.N[i]? = some x ∧ Loc X.env.scope x ∧ (X.fn x = true ∨ X.env.scope.names.lookup x = some .local) := by
  unfold chkNm at h
  simp only [Bool.and_eq_true, decide_eq_true_eq] at h
  obtain ⟨l, f⟩ := G.at_.st _ h.2
  exact ⟨by rw [G.g.eN]; exact h.1, l, f⟩
theorem nm_var {X : Cx} {sc : Scope} (G : Gs X cf P cl k sc) {i : Nat} {x : Str} (h : nmV cf sc i x = true) : X.N[i]? = some x ∧ Vis X.env.scope x ∧ (x == ("__debug__" : Str)) = false ∧ (x == ("__classdict__" : Str)) = false := by
  unfold nmV at h
  simp only [Bool.and_eq_true, decide_eq_true_eq, Bool.not_eq_true', decide_eq_false_iff_not] at h
  obtain ⟨h1, h2, h3, h4⟩ := h
  exact ⟨by rw [G.g.eN]; exact h1, vis_of h2 G.eq, bne_ h3, bne_ h4⟩
theorem ip_all {X : Cx} {o : Bo} (h : o = .add ∨ o = .sub) : PIp X (toOp o) (ipD o) := by
  rcases h with rfl | rfl
  · intro pins s σ H x y v u Q I r1 r2 ⟨a, b, e1, e2, q⟩
    have q : ∃ c : Int, PyData.int (a + b) = .int c ∧ Q (.int c) H := q
    obtain ⟨c, ec, q⟩ := q
    cases ec
    exact ip_add pins s σ H x y v u Q I r1 r2 ⟨a, b, e1, e2, q⟩
  · intro pins s σ H x y v u Q I r1 r2 ⟨a, b, e1, e2, q⟩
    have q : ∃ c : Int, PyData.int (a - b) = .int c ∧ Q (.int c) H := q
    obtain ⟨c, ec, q⟩ := q
    cases ec
    exact ip_sub pins s σ H x y v u Q I r1 r2 ⟨a, b, e1, e2, q⟩
mutual
theorem sS : ∀ (s : S) {X : Cx} {W : WX} {sc : Scope} {st : Stmt}, Gs X cf P cl k sc → Takes X W → chkS cf sc s st = true → PS X st (tS X.K P cl W s)
  | .asg i e, X, W, sc, st, G, tk, h => by
    simp only [chkS] at h
    unfold nAsg at h
    split at h
    · simp only [Bool.and_eq_true] at h
      obtain ⟨h1, h2, h3⟩ := h
      obtain ⟨n1, n2, n3⟩ := nm_get G h1
      have he := (sC e G.g tk G.eq h3).pe
      rename_i x p e' pos
      rcases Bool.or_eq_true_iff.mp h2 with z | z
      · exact s_asg G.g.nd n1 n2 n3 he (sw_plain z)
      · unfold isLC at z
        split at z
        · rename_i elt gs osc ep
          by_cases hb : (X.env.blockKind == .function && X.env.kindOf x == some .local && p.line == ep.line && !(osc.names.any fun (n, k) => n == x && (k == .local || k == .cell))) = true
          · cases e with
            | lc e0 t kd cs cd =>
              have h3' := h3
              simp only [chkE] at h3'
              unfold mLc at h3'
              split at h3'
              · rename_i e2 tg it ifs ia osc2 pos2 heq
                injection heq with q1 q2 q3 q4
                subst q1 q2 q3 q4
                simp only [Bool.and_eq_true, decide_eq_true_eq] at h3'
                obtain ⟨h0, c1, c2, c3, c4, c5, c6, c7, c8⟩ := h3'
                subst h0
                have em := tgNames_map c3
                simp only [Bool.and_eq_true, beq_iff_eq] at hb
                have hl : X.env.scope.names.lookup x = some .local := hb.1.1.2
                have sw : swapsWith (.ListComp elt [⟨tg, it, ifs, 0⟩] osc ep) (some (.Name x p)) pos.line X.env = pure true := by
                  refine sw_true G.kd hl (by simpa using hb.1.2) ?_
                  simpa using hb.2
                have big := ps_setLc (y := x) (py := p) (spos := pos) (te := tE X.K P cl W0 e0) (tt := tTs X.K P cl cd) (g := gTg X.K t) (own := tgNames t tg) G.g.calm G.g.nd n1 hl sw (s_it (t := t) (osc := osc) G.g G.eq c3 c1 (fun es h => sCs cs G.g tk G.eq h) c7) (blkOk_by (by rw [G.g.eN, G.eq]; exact c4)) (fun s H C cl' fp => pg_tg (cf := cf) G.g.calm G.g.nd G.g.eN at_blk c3) (fun s H C cl' fp => by
                  have z := sCs cd (G.g.blk s H osc (compEnvC osc cl' C X.env) fp) takes0 (show _ = relS osc sc by rw [← G.eq]; rfl) c5
                  cases z with
                  | nil => exact ts_nil
                  | cons z zz =>
                    cases zz with
                    | cons _ _ => simp at c6
                    | nil => exact ts_one z.2.2) (fun s H C cl' fp => (sC e0 (G.g.blk s H osc (compEnvC osc cl' C X.env) fp) takes0 (show _ = relS osc sc by rw [← G.eq]; rfl) c2).pe) (okE_fold c8)
                rw [em] at big
                refine psI big fun D σ H ⟨S0, LL, ρ, kk, R, hw, hk⟩ => lc_read ⟨S0, LL, ρ, _, _, R, hw, fun d v H' s r q => ?_, exE R hk⟩
                obtain ⟨LL', R', f⟩ := asg_read (i := i) R s r
                exact hk.nx _ _ _ _ R' f q
              · cases h3'
            | _ => exfalso; simp [chkE, mVar, mNon, mBl, mInt, mStr, mBin, mNeg, mNot, mAnd, mOr, mCmp, mChn, mIsN, mIsB, mMem, mIte, mTup, mLst, mIx, mSl, mRev, mCall, mCallV, mIsi, mXf, mXis] at h3 <;> (rename_i f0 _; cases f0 <;> simp [mBi, mBi0, mBits, mIn, mDef] at h3)
          · refine s_asg G.g.nd n1 n2 n3 he ?_
            have hb' : (X.env.blockKind == .function && X.env.kindOf x == some .local && p.line == ep.line && !(osc.names.any fun (n, k) => n == x && (k == .local || k == .cell))) = false := Bool.eq_false_iff.mpr hb
            show (pure (X.env.blockKind == .function && X.env.kindOf x == some .local && p.line == ep.line && !(osc.names.any fun (n, k) => n == x && (k == .local || k == .cell))) : Sem Bool) = pure false
            rw [hb']
        · cases z
    · cases h
  | .unp is e, X, W, sc, st, G, tk, h => by
    simp only [chkS] at h
    unfold nUnp at h
    split at h
    · rename_i es kt pt e' pos
      simp only [Bool.and_eq_true] at h
      obtain ⟨h1, h2, h3, h4, h5⟩ := h
      have hp := not_tup h5
      refine s_unp (sC e G.g tk G.eq h4).pe (pg_tg (cf := cf) (t := .tp is) G.g.calm G.g.nd G.g.eN G.at_ ?_) (by show swapsWith e' (some (.Tuple es kt pt)) pos.line X.env = pure false; exact sw_plain hp) (ss_none h5) rfl
      show chkTg cf sc (.tp is) (.Tuple es kt pt) = true
      simp only [chkTg, h1, h2, h3, Bool.and_self]
    · cases h
  | .par i j a b, X, W, sc, st, G, tk, h => by
    simp only [chkS] at h
    unfold nPar at h
    split at h
    · rename_i x px y py kt pt a' b' k2 pt2 pos
      simp only [Bool.and_eq_true, decide_eq_true_eq, Bool.not_eq_true', decide_eq_false_iff_not] at h
      obtain ⟨h1, h2, h3, h4, h5, h6, h7, h8, h9, h10, h11⟩ := h
      have ra := sC a G.g tk G.eq h6
      have rb := sC b G.g tk G.eq h8
      have hx : X.env.scope.names.lookup x = some .local := by rw [G.eq]; exact h4
      have hy : X.env.scope.names.lookup y = some .local := by rw [G.eq]; exact h5
      exact s_par G.g.calm G.g.nd (by rw [G.g.eN]; exact h1) (by rw [G.g.eN]; exact h2) h3 hx hy (args_pa (.cons ⟨h7, ra.pe, ra.pt⟩ (.cons ⟨h9, rb.pe, rb.pt⟩ .nil))) (par_sw G.kd hx hy h11 h7 h9 h10)
    · cases h
  | .nnew i, X, W, sc, st, G, tk, h => by
    simp only [chkS] at h
    unfold nNnew at h
    split at h
    · simp only [Bool.and_eq_true] at h
      obtain ⟨h1, h2, h3⟩ := h
      obtain ⟨n1, n2, n3⟩ := nm_get G h1
      exact s_nnew G.g.nd n1 n2 n3 (sC (.lst []) G.g tk G.eq h3).pe (sw_plain h2)
    · cases h
  | .napp i, X, W, sc, st, G, tk, h => by
    simp only [chkS] at h
    unfold nMeth at h
    split at h
    · simp only [Bool.and_eq_true, decide_eq_true_eq] at h
      obtain ⟨h1, rfl, h3, h4⟩ := h
      obtain ⟨n1, n2, n3, n4⟩ := nm_var G h1
      simp only [chkEs] at h3
      unfold mCons at h3
      split at h3
      · simp only [Bool.and_eq_true, List.isEmpty_iff] at h3
        obtain ⟨g1, g2, rfl⟩ := h3
        exact s_napp n1 n2 n3 n4 (sC (.lst []) G.g tk G.eq g1).pe g2 h4
      · cases h3
    · cases h
  | .nadd i a e, X, W, sc, st, G, tk, h => by
    simp only [chkS] at h
    unfold nNadd at h
    split at h
    · simp only [Bool.and_eq_true, decide_eq_true_eq] at h
      obtain ⟨h1, rfl, h2, h3, h4, h5⟩ := h
      obtain ⟨n1, n2, n3, n4⟩ := nm_var G h1
      simp only [chkEs] at h4
      unfold mCons at h4
      split at h4
      · simp only [Bool.and_eq_true, List.isEmpty_iff] at h4
        obtain ⟨g1, g2, rfl⟩ := h4
        exact s_nadd n1 n2 n3 n4 (sC a G.g tk G.eq h2).pe (okE_ix h3) (sC e G.g tk G.eq g1).pe g2 h5
      · cases h4
    · cases h
  | .put i a e, X, W, sc, st, G, tk, h => by
    simp only [chkS] at h
    unfold nPut at h
    split at h
    · simp only [Bool.and_eq_true] at h
      obtain ⟨h1, h2, h3, h4, h5⟩ := h
      obtain ⟨n1, n2, n3, n4⟩ := nm_var G h1
      exact s_put (o' := .Name "" ⟨0, 0, 0, 0⟩) n1 n2 n3 n4 (sC a G.g tk G.eq h2).pe (sC e G.g tk G.eq h4).pe h5 h3
    · cases h
  | .app i e, X, W, sc, st, G, tk, h => by
    simp only [chkS] at h
    unfold nMeth at h
    split at h
    · simp only [Bool.and_eq_true, decide_eq_true_eq] at h
      obtain ⟨h1, rfl, h3, h4⟩ := h
      obtain ⟨n1, n2, n3, n4⟩ := nm_var G h1
      simp only [chkEs] at h3
      unfold mCons at h3
      split at h3
      · simp only [Bool.and_eq_true, List.isEmpty_iff] at h3
        obtain ⟨g1, g2, rfl⟩ := h3
        exact s_app n1 n2 n3 n4 (sC e G.g tk G.eq g1).pe g2 h4
      · cases h3
    · cases h
  | .ext i e, X, W, sc, st, G, tk, h => by
    simp only [chkS] at h
    unfold nMeth at h
    split at h
    · simp only [Bool.and_eq_true, decide_eq_true_eq] at h
      obtain ⟨h1, rfl, h3, h4⟩ := h
      obtain ⟨n1, n2, n3, n4⟩ := nm_var G h1
      simp only [chkEs] at h3
      unfold mCons at h3
      split at h3
      · simp only [Bool.and_eq_true, List.isEmpty_iff] at h3
        obtain ⟨g1, g2, rfl⟩ := h3
        exact s_ext n1 n2 n3 n4 (sC e G.g tk G.eq g1).pe g2 h4
      · cases h3
    · cases h
  | .pop i, X, W, sc, st, G, tk, h => by
    simp only [chkS] at h
    unfold nMeth at h
    split at h
    · simp only [Bool.and_eq_true, decide_eq_true_eq] at h
      obtain ⟨h1, rfl, h3, h4⟩ := h
      obtain ⟨n1, n2, n3, n4⟩ := nm_var G h1
      simp only [chkEs, List.isEmpty_iff] at h3
      subst h3
      exact s_pop n1 n2 n3 n4 h4
    · cases h
  | .popA i a, X, W, sc, st, G, tk, h => by
    simp only [chkS] at h
    unfold nMeth at h
    split at h
    · simp only [Bool.and_eq_true, decide_eq_true_eq] at h
      obtain ⟨h1, rfl, h3, h4⟩ := h
      obtain ⟨n1, n2, n3, n4⟩ := nm_var G h1
      simp only [chkEs] at h3
      unfold mCons at h3
      split at h3
      · simp only [Bool.and_eq_true, List.isEmpty_iff] at h3
        obtain ⟨g1, g2, rfl⟩ := h3
        exact s_popA n1 n2 n3 n4 (sC a G.g tk G.eq g1).pe g2 h4
      · cases h3
    · cases h
  | .popTo j i, X, W, sc, st, G, tk, h => by
    simp only [chkS] at h
    unfold nPopTo at h
    split at h
    · simp only [Bool.and_eq_true, decide_eq_true_eq] at h
      obtain ⟨h1, rfl, h3, h4⟩ := h
      obtain ⟨n1, n2, n3, n4⟩ := nm_var G h1
      obtain ⟨m1, m2, m3⟩ := nm_get G h3
      exact s_popTo G.g.nd n1 n2 n3 n4 h4 m1 m2 m3
    · cases h
  | .aug i o e, X, W, sc, st, G, tk, h => by
    simp only [chkS] at h
    unfold nAug at h
    split at h
    · simp only [Bool.and_eq_true] at h
      obtain ⟨h1, h2, h3, h4⟩ := h
      obtain ⟨m1, m2, m3⟩ := nm_get G h1
      rw [opB_to h2]
      exact s_aug G.g.nd m1 m2 m3 (sC e G.g tk G.eq h3).pe (ip_all (by simpa using h4))
    · cases h
  | .exp e, X, W, sc, st, G, tk, h => by
    simp only [chkS] at h
    unfold nExp at h
    split at h
    · simp only [Bool.and_eq_true] at h
      exact s_exp (sC e G.g tk G.eq h.1).pe (sw_none (not_tup h.2))
    · cases h
  | .ret e, X, W, sc, st, G, tk, h => by
    simp only [chkS] at h
    unfold nRet at h
    split at h
    · exact s_ret (sC e G.g tk G.eq h).pe
    · cases h
  | .retN, X, W, sc, st, G, tk, h => by
    simp only [chkS] at h
    unfold nRetN at h
    split at h
    · exact s_retN
    · cases h
  | .ite c a b, X, W, sc, st, G, tk, h => by
    simp only [chkS] at h
    unfold nIte at h
    split at h
    · simp only [Bool.and_eq_true] at h
      obtain ⟨h1, h2, h3⟩ := h
      exact s_ite (sC c G.g tk G.eq h1).pt (sSs a G tk h2) (sSs b G tk h3)
    · cases h
  | .fr t kd es body, X, W, sc, st, G, tk, h => by
    simp only [chkS] at h
    unfold nFr at h
    split at h
    · simp only [Bool.and_eq_true] at h
      obtain ⟨h1, h2, h3, h4, h5⟩ := h
      exact s_fr G.po G.g.calm (s_it G.g G.eq h1 h2 (fun es' h => sCs es G.g tk G.eq h) h4) (pg_tg (cf := cf) G.g.calm G.g.nd G.g.eN G.at_ h1) (sSs body G tk h3) (okE_fold h5)
    · cases h
  | .wh c body, X, W, sc, st, G, tk, h => by
    simp only [chkS] at h
    unfold nWh at h
    split at h
    · simp only [Bool.and_eq_true] at h
      exact s_wh G.po (sC c G.g tk G.eq h.1).pt (sSs body G tk h.2)
    · cases h
  | .brk, X, W, sc, st, G, tk, h => by
    simp only [chkS] at h
    unfold nBrk at h
    split at h
    · exact s_brk
    · cases h
  | .cnt, X, W, sc, st, G, tk, h => by
    simp only [chkS] at h
    unfold nCnt at h
    split at h
    · exact s_cnt
    · cases h
  | .pas, X, W, sc, st, G, tk, h => by
    simp only [chkS] at h
    unfold nPas at h
    split at h
    · exact s_pas
    · cases h
  | .rai c es, X, W, sc, st, G, tk, h => by
    simp only [chkS] at h
    unfold nRai at h
    split at h
    · simp only [Bool.and_eq_true, decide_eq_true_eq, Bool.not_eq_true', decide_eq_false_iff_not] at h
      obtain ⟨h1, h2, h3, h4, h5, h6⟩ := h
      exact s_rai G.g tk (gl_of h2 G.eq) h1 (by rw [← G.g.rzE]; exact h5) (bne_ h6) (sCs es G.g tk G.eq h3) h4
    · cases h
  | .tri body hc hv hb, X, W, sc, st, G, tk, h => by
    simp only [chkS] at h
    unfold nTri at h
    split at h
    · rename_i body' hds pos
      simp only [Bool.and_eq_true, decide_eq_true_eq] at h
      obtain ⟨h1, h2, h3⟩ := h
      obtain ⟨i1, i2, i3, i4⟩ := chk_hs G hb hc hv h2
      cases hds with
      | nil =>
        have : hb = [] := by
          cases hb with
          | nil => rfl
          | cons b bs =>
            simp only [chkHs] at h2
            unfold nHd at h2
            split at h2
            · cases ‹([] : List ExceptHandler) = _›
            · cases ‹([] : List ExceptHandler) = _›
            · cases h2
        subst this
        simp at h3
      | cons h0 hds =>
        refine psI (ps_tryG (tb := fun V => tSs X.K P cl V body) G.hs G.hf G.g.nd tk (fun V qn ee tk' po => sSs body (G.tr qn ee po) tk' h1) i1) fun D σ H ⟨S0, LL, ρ, kk, R, hw, hk⟩ => ⟨S0, LL, ρ, _, R, hw, ⟨hk.nx, hk.rt, hk.bk, hk.ct, fun c fs cv dx LL' ρ' σ' H' R' f x q => ?_⟩⟩
        exact hd_read G.g R' (hk.from f) x hb hc hv i2 i3 i4 q
    · cases h
  | .kil is, X, W, sc, st, G, tk, h => by simp only [chkS, Bool.false_eq_true] at h
theorem sSs : ∀ (ss : List S) {X : Cx} {W : WX} {sc : Scope} {sts : List Stmt}, Gs X cf P cl k sc → Takes X W → chkSs cf sc ss sts = true → PSs X sts (tSs X.K P cl W ss)
  | [], X, W, sc, sts, G, tk, h => by
    simp only [chkSs] at h
    cases sts with
    | nil => exact ss_nil
    | cons _ _ => cases h
  | s :: ss, X, W, sc, sts, G, tk, h => by
    simp only [chkSs] at h
    split at h
    · rename_i ek
      cases s <;> simp only [isKil, Bool.false_eq_true] at ek
      exact ss_kil (sSs ss G tk h)
    · unfold nCons at h
      split at h
      · simp only [Bool.and_eq_true] at h
        exact ss_cons (sS s G tk h.1) (sSs ss G tk h.2)
      · cases h
end
end
end Uq

set_option maxHeartbeats 2000000
/-! Uq, part w: functions. -/
namespace Uq
open PySem PySem.Spec PyProof.Rows L2
/-- a def's parts stand as its function says -/
def chkD (cf : Cf) (f : Nat) (fn : Fn) (body : List Stmt) (sc : Scope) : Bool := decide (fn.np = (cf.prm f).length) && (decide (fn.ns = cf.N.length) && (decide (cf.N.take fn.np = cf.prm f) && (decide cf.N.Nodup && (decide (sc.kind = .function) && (!sc.isCoroutine && (!sc.isGenerator &&
  ((cf.prm f).all (fun p => isSt sc p) && ((sc.names.all fun y => !decide (y.2 = .free)) && chkSs cf sc fn.body body))))))))
/-- a def as it stands in the program -/
structure DfAt (Kf : PySem.W.Frag) (mg : Str → Option Value) (cf : Cf) (T : Nat → Option Fn) (x : Str) (f : Nat) (fa : Addr) (fd : FuncData) : Prop where
  ex : ∃ (fn : Fn) (N : List Str) (qual : Str) (a : Arguments) (body : List Stmt) (sc : Scope), mg x = some (.ref fa) ∧ PySem.W.keepIn Kf (.ref fa) = true ∧ Binds Kf fd (cf.prm f) [] ∧ (∀ n ks, (n, ks) ∈ cf.shp f → Shp Kf fd (cf.prm f) n ks) ∧
    T f = some fn ∧ FunD Kf x qual a body sc [] [] fa fd ∧ chkD { cf with N := N } f fn body sc = true
/-- .. with a star -/
structure DfAtV (Kf : PySem.W.Frag) (mg : Str → Option Value) (cf : Cf) (T : Nat → Option Fn) (x : Str) (f : Nat) (fa : Addr) (fd : FuncData) : Prop where
  ex : ∃ (fn : Fn) (N : List Str) (qual : Str) (a : Arguments) (body : List Stmt) (sc : Scope), mg x = some (.ref fa) ∧ PySem.W.keepIn Kf (.ref fa) = true ∧ BndV Kf fd (cf.prm f) ∧ (cf.prm f).length = 1 ∧
    T f = some fn ∧ FunD Kf x qual a body sc [] [] fa fd ∧ chkD { cf with N := N } f fn body sc = true
/-- the program -/
structure Pr (prog : Program) (w : World) (Kf : PySem.W.Frag) (mg : Str → Option Value) (base : Heap) (P : Pg) (cf : Cf) (T : Nat → Option Fn) (sub : Nat → Nat → Bool) : Prop where
  xa : P.xa = xa0
  bi : ∀ x ∈ biNames, mg x = none
  xc : ∀ x c, cf.xcI x = some c → mg x = some (.ref (P.CA c))
  rzE : cf.rz = P.rz
  made : ∀ c ∈ P.rz, XMk prog w Kf mg base (P.CA c) (P.flds c)
  subV : ∀ c ∈ P.rz, PySem.W.kitOne Kf (.ref (P.CA c)) (.type "ValueError") = some (sub c 1000)
  sub : ∀ c ∈ P.rz, ∀ x h, cf.xcI x = some h → PySem.W.exmOne Kf (.ref (P.CA c)) (.ref (P.CA h)) = some (sub c h) ∧ PySem.W.kitOne Kf (.ref (P.CA c)) (.ref (P.CA h)) = some (sub c h)
  exc : ∀ c ∈ P.rz, ExcC Kf (P.CA c) ∧ XfC Kf (P.CA c) ∧ ∀ f ∈ P.flds c, PySem.W.findIn Kf (.ref (P.CA c)) f = some none
  fn : ∀ x f, cf.fnI x = some f → ∃ fa fd, DfAt Kf mg cf T x f fa fd
  fv : ∀ x f, cf.fvI x = some f → ∃ fa fd, DfAtV Kf mg cf T x f fa fd
theorem start_get {fn : Fn} {ds : List D} {i : Nat} {s : Sl} (e : (start fn ds)[i]? = some s) : (∃ d, ds[i]? = some d ∧ s = .va d) ∨ s = .no := by
  unfold start at e
  by_cases h : i < ds.length
  · rw [List.getElem?_append_left (by rw [List.length_map]; exact h), List.getElem?_map] at e
    cases q : ds[i]? with
    | none => rw [q] at e; cases e
    | some d =>
      rw [q] at e
      exact .inl ⟨d, rfl, (Option.some.inj e).symm⟩
  · rw [List.getElem?_append_right (by rw [List.length_map]; omega), List.getElem?_replicate] at e
    split at e
    · exact .inr (Option.some.inj e).symm
    · cases e
theorem start_rel {Kf : PySem.W.Frag} {P : Pg} {S : Addr → Prop} {H : Hp} {fn : Fn} {N : List Str} {ds : List D} {vs : List V} (r : Rps Kf S H ds vs) (fr : ∀ a, H a = none → S a) (hn : ds.length = fn.np) (hN : fn.ns = N.length) (hle : fn.np ≤ N.length) :
    Rel Kf P S (fun _ => []) (start fn ds) (L2.start N vs) H where
  ln := by
    have := r.length
    unfold start L2.start
    simp only [List.length_append, List.length_map, List.length_replicate]
    omega
  slot := fun i s e => by
    rcases start_get e with ⟨d, ed, rfl⟩ | rfl
    · obtain ⟨v, ev, rv⟩ := r.get ed
      refine ⟨rfl, v, ?_, rv.wide fun a _ _ h => ⟨h, fun _ z => nomatch z⟩⟩
      have hl : i < vs.length := (List.getElem?_eq_some_iff.mp ev).1
      unfold L2.start
      rw [List.getElem?_append_left (by rw [List.length_map]; exact hl), List.getElem?_map, ev]
      rfl
    · rfl
  dj := fun _ _ _ h => nomatch h
  own := fun _ _ h => nomatch h
  fr := fr
theorem fm_same {LL : Ow} {H H' : Hp} (h : Fm (fun _ => []) H LL H') : Same H H' := fun a o e => h.1 a o e fun _ z => nomatch z
section
variable {prog : Program} {w : World} {Kf : PySem.W.Frag} {mg : Str → Option Value} {base : Heap} {P : Pg} {cf : Cf} {T : Nat → Option Fn} {sub : Nat → Nat → Bool}
theorem body_ok (R : Pr prog w Kf mg base P cf T sub) (n : Nat) (ih : ∀ (x : Str) (f : Nat) (fa : Addr) (fd : FuncData), DfAt Kf mg cf T x f fa fd → FnOk prog w Kf mg base (L2.CX prog w) (n + 2) fa fd (cf.prm f) (spF Kf P (cf.prm f).length (wC T sub P.flds n f)))
    (ihV : ∀ (x : Str) (f : Nat) (fa : Addr) (fd : FuncData), DfAtV Kf mg cf T x f fa fd → FnV prog w Kf mg base (L2.CX prog w) (n + 2) fa fd (cf.prm f) (spF Kf P (cf.prm f).length (wC T sub P.flds n f)))
    {f : Nat} {fn : Fn} {N : List Str} {qual : Str} {body : List Stmt} {sc : Scope} {fa : Addr} (h5 : T f = some fn) (h7 : chkD { cf with N := N } f fn body sc = true) : FnScope N (cf.prm f) sc ∧
    ∀ (cdv : Value) (A : Around) (outer : List PySem.Env) (s : Shared) (H : Hp) (vs : List V) (Q : VK) (E : XK), Room (n + 2) (A.deeper (envOfC qual sc s.heap.objs.size fa cdv)) → spF Kf P (cf.prm f).length (wC T sub P.flds (n + 1) f) vs H Q E →
      ∃ t, PSs (cxOf (L2.CX prog w) prog w Kf mg base N qual sc fa cdv A outer s H E) body t ∧ t { nx := fun _ H' => Q .non H', rt := Q } (L2.start N vs) H := by
    unfold chkD at h7
    simp only [Bool.and_eq_true, decide_eq_true_eq, Bool.not_eq_true', List.all_eq_true, decide_eq_false_iff_not] at h7
    obtain ⟨c1, c2, c3, c4, c5, c6, c7, c8, c9, c10⟩ := h7
    have cN : fn.ns = N.length := c2
    have cnd : N.Nodup := c4
    have cle : fn.np ≤ N.length := by
      have := congrArg List.length c3
      rw [List.length_take] at this
      have c1' : fn.np = (cf.prm f).length := c1
      omega
    have par : ∀ p ∈ cf.prm f, sc.names.lookup p = some .local ∨ sc.names.lookup p = some .cell := fun p hp => by
      have z := c8 p hp
      unfold isSt at z
      split at z
      · exact .inl (by assumption)
      · exact .inr (by assumption)
      · cases z
    have pre : N.take (cf.prm f).length = cf.prm f := by
      rw [← c1]
      exact c3
    have sc2 : FnScope N (cf.prm f) sc := ⟨c5, c6, c7, cnd, pre, par, fun y hy => c9 y hy⟩
    refine ⟨sc2, fun cdv A outer s H vs Q E hr hsp => ?_⟩
    · obtain ⟨ds, S, q, e, r, fr, hc, hl, hq, he⟩ := hsp
      unfold wC at hc
      rw [h5] at hc
      obtain ⟨hn, hc⟩ := hc
      have G : Gd (cxOf (L2.CX prog w) prog w Kf mg base N qual sc fa cdv A outer s H E) { cf with N := N } P ⟨wC T sub P.flds n, sub, P.flds⟩ (n + 2) :=
        ⟨rfl, cnd, rfl, hr, R.xa, R.bi, Nat.le_add_left _ _, R.xc, R.rzE, R.made, fun _ => rfl, R.sub, R.subV, R.exc, fun y g hy => by
          obtain ⟨ga, gd, hg⟩ := R.fn y g hy
          obtain ⟨_, _, _, _, _, _, g1, g2, g3, g4, _⟩ := id hg.ex
          exact ⟨ga, gd, g1, g2, ih y g ga gd hg, g3, g4⟩, fun y g hy => by
          obtain ⟨ga, gd, hg⟩ := R.fv y g hy
          obtain ⟨_, _, _, _, _, _, g1, g2, g3, g4, _⟩ := id hg.ex
          exact ⟨ga, gd, g1, g2, ihV y g ga gd hg, g3, g4⟩⟩
      have GS : Gs (cxOf (L2.CX prog w) prog w Kf mg base N qual sc fa cdv A outer s H E) { cf with N := N } P ⟨wC T sub P.flds n, sub, P.flds⟩ (n + 2) sc := by
        refine ⟨G, rfl, ⟨fun y hy => ⟨?_, .inl rfl⟩⟩, L2.passes_of rfl, c5, rfl, rfl⟩
        unfold isSt at hy
        split at hy
        · exact .inl (by assumption)
        · exact .inr (by assumption)
        · cases hy
      have tk : Takes (cxOf (L2.CX prog w) prog w Kf mg base N qual sc fa cdv A outer s H E) (fun cv dx _ H' => E cv dx H') := L2.takes_of rfl rfl rfl rfl
      refine ⟨_, sSs fn.body GS tk c10, S, fun _ => [], _, _, start_rel r fr hn cN cle, hc, ?_⟩
      exact ⟨fun LL' ρ' σ' H' R' f q' => hq .none .non H' (fm_same f) (by simp only [Rp]) q', fun d v LL' H' r' f q' => hq d v H' (fm_same f) r' q', fun _ _ _ _ _ _ z => z.elim, fun _ _ _ _ _ _ z => z.elim,
        fun c fs cv dx LL' ρ' σ' H' R' f x q' => he c fs cv dx H' (fm_same f) x q'⟩
theorem fn_both (R : Pr prog w Kf mg base P cf T sub) : ∀ n : Nat, (∀ (x : Str) (f : Nat) (fa : Addr) (fd : FuncData), DfAt Kf mg cf T x f fa fd → FnOk prog w Kf mg base (L2.CX prog w) (n + 2) fa fd (cf.prm f) (spF Kf P (cf.prm f).length (wC T sub P.flds n f))) ∧
    (∀ (x : Str) (f : Nat) (fa : Addr) (fd : FuncData), DfAtV Kf mg cf T x f fa fd → FnV prog w Kf mg base (L2.CX prog w) (n + 2) fa fd (cf.prm f) (spF Kf P (cf.prm f).length (wC T sub P.flds n f)))
  | 0 => by
    refine ⟨fun x f fa fd hx => ⟨fun vs H Q E h => ?_, fun A outer s H args us vs Q E hr he hb hv h => ?_⟩, fun x f fa fd hx => ⟨fun vs H Q E h => ?_, fun A outer s s1 H args us vs Q E hr kx he hb hv h => ?_⟩⟩
    all_goals
      obtain ⟨ds, S, q, e, _, _, hc, _⟩ := h
      exact hc.elim
  | n + 1 => by
    obtain ⟨ih, ihV⟩ := fn_both R n
    refine ⟨fun x f fa fd hx => ?_, fun x f fa fd hx => ?_⟩
    · obtain ⟨fn, N, qual, a, body, sc, h1, h2, h3, h4, h5, h6, h7⟩ := hx.ex
      obtain ⟨sc2, hb⟩ := body_ok (qual := qual) (fa := fa) R n ih ihV h5 h7
      exact h6.ok sc2 (fun vs H Q E ⟨ds, S, q, e, _, _, _, hl, _⟩ => hl) hb
    · obtain ⟨fn, N, qual, a, body, sc, h1, h2, h3, h4, h5, h6, h7⟩ := hx.ex
      obtain ⟨sc2, hb⟩ := body_ok (qual := qual) (fa := fa) R n ih ihV h5 h7
      exact FunD.okV h6 sc2 (fun vs H Q E ⟨ds, S, q, e, _, _, _, hl, _⟩ => hl) hb
theorem fn_ok (R : Pr prog w Kf mg base P cf T sub) (n : Nat) (x : Str) (f : Nat) (fa : Addr) (fd : FuncData) (hx : DfAt Kf mg cf T x f fa fd) : FnOk prog w Kf mg base (L2.CX prog w) (n + 2) fa fd (cf.prm f) (spF Kf P (cf.prm f).length (wC T sub P.flds n f)) :=
  (fn_both R n).1 x f fa fd hx
end
end Uq

set_option maxHeartbeats 2000000
/-! Uq, part x: from what is known of the program's objects to the program's facts. -/
namespace Uq
open PySem PySem.Spec PyProof.Rows L2
/-! ### a Hook with one more Bool -/
def obsU (fa : List He.Fa) (fn : List He.DefD) (ex : PySem.W.Frag → Bool) (K : PySem.W.Frag) : Bool × List He.FnW := ((fa.all fun f => f.ok K) && ((fn.all fun d => d.ok K) && ex K), fn.map fun d => He.fnW K d.at_)
def SaysU (fa : List He.Fa) (fn : List He.DefD) (ex : PySem.W.Frag → Bool) (K : PySem.W.Frag) : Prop := obsU fa fn ex K = (true, fn.map He.DefD.val)
def obsUG (n : Nat) (fa : List He.Fa) (fn : List He.DefD) (ex : PySem.W.Frag → Bool) (g : Addr → Option Obj) : Bool × List He.FnW := obsU fa fn ex (He.frG g (He.asD g n))
def hookU (n : Nat) (fa : List He.Fa) (fn : List He.DefD) (ex : PySem.W.Frag → Bool) : PySem.W.Hook where
  α := Bool × List He.FnW
  obs := fun s => obsUG n fa fn ex s.heap.get?
  val := fun _ => (true, fn.map He.DefD.val)
  says := fun _ h => ∃ Kf : PySem.W.Frag, Kf.In h ∧ SaysU fa fn ex Kf
  of := fun _ _ e => ⟨_, He.frG_in, e⟩
  keeps := fun _ _ _ ⟨Kf, hK, c⟩ k => ⟨Kf, PySem.W.Frag.In.keeps hK k, c⟩
theorem obsUG_eq {n : Nat} {fa : List He.Fa} {fn : List He.DefD} {ex : PySem.W.Frag → Bool} {g : Addr → Option Obj} {s : Shared} (h : ∀ a, g a = s.heap.get? a) : obsUG n fa fn ex g = (hookU n fa fn ex).obs s := by
  have eg : g = s.heap.get? := funext h
  rw [eg]; rfl
section
variable {fa : List He.Fa} {fn : List He.DefD} {ex : PySem.W.Frag → Bool} {Kf : PySem.W.Frag}
theorem SaysU.bools (c : SaysU fa fn ex Kf) : (∀ f ∈ fa, f.ok Kf = true) ∧ (∀ d ∈ fn, d.ok Kf = true) ∧ ex Kf = true := by
  have e : ((fa.all fun f => f.ok Kf) && ((fn.all fun d => d.ok Kf) && ex Kf)) = true := congrArg (·.1) c
  simp only [Bool.and_eq_true, List.all_eq_true] at e
  exact ⟨e.1, e.2.1, e.2.2⟩
theorem SaysU.def_ (c : SaysU fa fn ex Kf) (i : Nat) {d : He.DefD} (h : fn[i]? = some d) : ∃ fd, FunD Kf d.name d.qual d.params d.body d.scope (d.dvs Kf) (d.kws Kf) (He.fAd Kf d.at_) fd := by
  have e2 : (fn.map fun d => He.fnW Kf d.at_)[i]? = (fn.map He.DefD.val)[i]? := by rw [show (fn.map fun d => He.fnW Kf d.at_) = fn.map He.DefD.val from congrArg (·.2) c]
  rw [List.getElem?_map, List.getElem?_map, h] at e2
  exact He.DefD.funD (Option.some.inj e2) (c.bools.2.1 d (List.mem_of_getElem? h))
end
/-! ### exception classes -/
def oxB (Kf : PySem.W.Frag) (C : Addr) : Bool := match Kf.lookup C with
  | some ⟨.type "type", _, .cls cd, sl⟩ => (match cd.mro, sl.toList with
    | .ref C' :: bm, [_, _, _, _, some (.builtin n), _] => decide (C' = C) && (decide (n = "ValueError.__new__") && (!cd.hasDel && (cd.hasDict && HandSPX.refsVE bm)))
    | _, _ => false)
  | _ => false
theorem oxB_ok {Kf : PySem.W.Frag} {C : Addr} (h : oxB Kf C = true) : ∃ nm q N bs bm sn sub ab col dd k0 k1 k2 k3 k5, Kf.lookup C = some (excClassObj nm q C N bs bm true sn sub ab col dd k0 k1 k2 k3 k5 "ValueError.__new__") ∧ PySem.HandSPX.refsVE bm = true := by
  unfold oxB at h
  split at h
  · rename_i dd cd sl ho
    split at h
    · rename_i C' bm k0 k1 k2 k3 n k5 hm hs
      simp only [Bool.and_eq_true, decide_eq_true_eq, Bool.not_eq_true'] at h
      obtain ⟨rfl, rfl, h3, h4, h5⟩ := h
      obtain ⟨nm, bs, mro, ns, qn, hd, sn, sub, ab, col, del⟩ := cd
      dsimp only at hm h3 h4
      subst hm h3 h4
      have esl : sl = #[k0, k1, k2, k3, some (.builtin "ValueError.__new__"), k5] := by
        obtain ⟨l⟩ := sl
        simp only at hs
        rw [hs]
      subst esl
      exact ⟨nm, qn, ns, bs, bm, sn, sub, ab, col, dd, k0, k1, k2, k3, k5, ho, h5⟩
    · cases h
  · cases h
/-- all that is asked of a class that is raised -/
def xcB (Kf : PySem.W.Frag) (C : Addr) (fl : List Str) : Bool :=
  oxB Kf C && (decide (PySem.W.findIn Kf (.ref C) "__setattr__" = some (some (.builtin "object.__setattr__"))) && (decide (PySem.W.subIn Kf (.ref C) (.type "BaseException") = some true) && (decide (PySem.W.typeIn Kf (.ref C) = some (.type "type")) && (PySem.W.keepIn Kf (.ref C) &&
  (decide (PySem.W.findIn Kf (.ref C) "__getattribute__" = some (some (.builtin "BaseException.__getattribute__"))) && (decide (PySem.W.findIn Kf (.ref C) "__getattr__" = some none) && (PySem.W.hasDictIn Kf C && (decide (PySem.W.findIn Kf (.ref C) "__class__" = some (some (.builtin "object.__class__"))) &&
  (decide (PySem.W.specialIn Kf (.builtin "object.__class__") "__get__" = some (some (.builtin "getset_descriptor.__get__"))) && (decide (PySem.W.takesIn Kf (.builtin "object.__class__") = some true) && (decide (PySem.W.mroIn Kf C (.type "object") = some true) &&
  ((fl.all fun f => decide (PySem.W.findIn Kf (.ref C) f = some none)) && (decide (PySem.W.findIn Kf (.ref C) "__init__" = some (some (.ref (He.ma Kf C "__init__")))) && decide (PySem.W.typeIn Kf (.ref (He.ma Kf C "__init__")) = some (.type "function")))))))))))))))
structure XcK (Kf : PySem.W.Frag) (C : Addr) (fl : List Str) : Prop where
  oex : OexC Kf C
  exc : ExcC Kf C
  xf : XfC Kf C
  no : ∀ f ∈ fl, PySem.W.findIn Kf (.ref C) f = some none
  ini : PySem.W.findIn Kf (.ref C) "__init__" = some (some (.ref (He.ma Kf C "__init__")))
  ty : PySem.W.typeIn Kf (.ref (He.ma Kf C "__init__")) = some (.type "function")
theorem xcB_ok {Kf : PySem.W.Frag} {C : Addr} {fl : List Str} (h : xcB Kf C fl = true) : XcK Kf C fl := by
  unfold xcB at h
  simp only [Bool.and_eq_true, decide_eq_true_eq, List.all_eq_true] at h
  obtain ⟨h1, h2, h3, h4, h5, h6, h7, h8, h9, h10, h11, h12, h13, h14, h15⟩ := h
  exact ⟨⟨oxB_ok h1, h2, h3, h4, h5⟩, ⟨h6, h7, h3, h8, h9, h10, h11, h12⟩, ⟨h6, h7, h3, h8⟩, h13, h14, h15⟩
/-! ### __init__ -/
def chkI (self : Str) : List Str → List Str → List Stmt → Bool
  | [], [], [] => true
  | f :: fl, p :: ps, st :: r => (match st with
    | .Assign [.Attribute (.Name s _) f' _] (.Name p' _) _ => decide (s = self) && (decide (f' = f) && decide (p' = p))
    | _ => false) && chkI self fl ps r
  | _, _, _ => false
def tIni (Kf : PySem.W.Frag) : List Str → Nat → TS
  | [], _ => tNext
  | f :: fl, j => tSeq (tOst Kf f (tVar 0) (tVar j)) (tIni Kf fl (j + 1))
section
variable {X : Cx} {self : Str}
theorem ini_pss (h0 : X.N[0]? = some self) (vis : ∀ x ∈ X.N, Vis X.env.scope x) (nd : ∀ x ∈ X.N, (x == ("__debug__" : Str)) = false ∧ (x == ("__classdict__" : Str)) = false) : ∀ (fl ps : List Str) (body : List Stmt) (j : Nat), chkI self fl ps body = true → (∀ i p, ps[i]? = some p → X.N[j + i]? = some p) →
    PSs X body (tIni X.K fl j)
  | [], [], [], j, _, _ => pss_nil
  | f :: fl, p :: ps, st :: r, j, h, hp => by
    simp only [chkI, Bool.and_eq_true] at h
    obtain ⟨h1, h2⟩ := h
    have ih := ini_pss h0 vis nd fl ps r (j + 1) h2 fun i q e => by
      have := hp (i + 1) q e
      rw [← this]
      congr 1
      omega
    split at h1
    · simp only [Bool.and_eq_true, decide_eq_true_eq] at h1
      obtain ⟨rfl, rfl, rfl⟩ := h1
      have hj := hp 0 _ rfl
      have m0 := List.mem_of_getElem? h0
      have mj := List.mem_of_getElem? hj
      exact pss_cons (ps_ost (pe_var h0 (vis _ m0) (nd _ m0).1 (nd _ m0).2) (pe_var hj (vis _ mj) (nd _ mj).1 (nd _ mj).2) rfl) ih
    · cases h1
  | [], [], _ :: _, _, h, _ => by cases h
  | [], _ :: _, _, _, h, _ => by cases h
  | _ :: _, [], _, _, h, _ => by cases h
  | _ :: _, _ :: _, [], _, h, _ => by cases h
theorem ini_read {Kf : PySem.W.Frag} {C a d : Addr} {D : Ends} (T : OexC Kf C) (had : d ≠ a) {σ : L2.St} (h0 : σ[0]? = some (some (.ref a))) : ∀ (fl : List Str) (vs : List V) (j : Nat) (fs : List (Str × V)) (H : Hp), (∀ f ∈ fl, PySem.W.findIn Kf (.ref C) f = some none) → fl.length = vs.length → (∀ i v, vs[i]? = some v → σ[j + i]? = some (some v)) →
    fs.length + fl.length ≤ 900 → H a = some (exo a C (some d)) → H d = some (exd d fs) →
    (∀ H2, H2 a = some (exo a C (some d)) → H2 d = some (exd d ((fl.zip vs).reverse ++ fs)) → (∀ b, b ≠ a → b ≠ d → H2 b = H b) → D.nx σ H2) → tIni Kf fl j D σ H
  | [], [], j, fs, H, hno, hl, hv, hz, ea, ed, hq => hq H ea ed fun _ _ _ => rfl
  | f :: fl, v :: vs, j, fs, H, hno, hl, hv, hz, ea, ed, hq => by
    refine ⟨v, hv 0 v rfl, _, h0, a, C, rfl, T, hno f List.mem_cons_self, .inr ⟨d, fs, ea, ed, by simp only [List.length_cons] at hz; omega, ?_⟩⟩
    refine ini_read T had h0 fl vs (j + 1) ((f, v) :: fs) _ (fun g hg => hno g (List.mem_cons_of_mem _ hg)) (by simpa using hl) (fun i w e => ?_) (by simp only [List.length_cons] at hz ⊢; omega) (by rw [upd_ne (Ne.symm had)]; exact ea) upd_same fun H2 e1 e2 e3 => ?_
    · have := hv (i + 1) w e
      rw [← this]
      congr 1
      omega
    · refine hq H2 e1 (by rw [e2, List.zip_cons_cons, List.reverse_cons, List.append_assoc]; rfl) fun b n1 n2 => ?_
      rw [e3 b n1 n2, upd_ne n2]
  | [], _ :: _, _, _, _, _, hl, _, _, _, _, _ => by simp at hl
  | _ :: _, [], _, _, _, _, hl, _, _, _, _, _ => by simp at hl
end
/-- __init__'s parts -/
def chkN (fl : List Str) (ps : List Str) (body : List Stmt) (sc : Scope) : Bool := match ps with
  | self :: ps' => decide (fl ≠ []) && (decide (fl.length ≤ 100) && (decide (ps'.length = fl.length) && (chkI self fl ps' body && (decide (self :: ps').Nodup && (decide (sc.kind = .function) && (!sc.isCoroutine && (!sc.isGenerator && (((self :: ps').all fun p => decide (sc.names.lookup p = some .local)) &&
      ((sc.names.all fun y => !decide (y.2 = .free)) && (self :: ps').all fun p => !decide (p = "__debug__") && !decide (p = "__classdict__"))))))))))
  | [] => false
theorem made_of {prog : Program} {w : World} {Kf : PySem.W.Frag} {mg : Str → Option Value} {base : Heap} {C : Addr} {fl ps : List Str} {x qual : Str} {params : Arguments} {body : List Stmt} {sc : Scope} {fd : FuncData} (c : XcK Kf C fl) (F : FunD Kf x qual params body sc [] [] (He.ma Kf C "__init__") fd)
    (hb : Binds Kf fd ps []) (h : chkN fl ps body sc = true) : XMk prog w Kf mg base C fl := by
  unfold chkN at h
  split at h
  · rename_i self ps'
    simp only [Bool.and_eq_true, decide_eq_true_eq, List.all_eq_true, Bool.not_eq_true', decide_eq_false_iff_not] at h
    obtain ⟨h1, h2, h3, h4, h5, h6, h7, h8, h9, h10, h11⟩ := h
    refine ⟨c.oex, ⟨_, fd, self :: ps', c.ini, c.ty, ?_, hb⟩, h2⟩
    have S : FnScope (self :: ps') (self :: ps') sc := ⟨h6, h7, h8, h5, by simp, fun p hp => .inl (h9 p hp), fun y hy => h10 y hy⟩
    refine F.ok S (fun vs H Q E z => ?_) fun cdv A outer s H vs Q E hr z => ⟨tIni Kf fl 1, ?_, ?_⟩
    · rw [z.1, List.length_cons, h3]
    · exact ini_pss (X := cxOf CX0 prog w Kf mg base (self :: ps') qual sc (He.ma Kf C "__init__") cdv A outer s H E) (self := self) rfl (fun p hp => .inl (h9 p hp)) (fun p hp => ⟨bne_ (h11 p hp).1, bne_ (h11 p hp).2⟩) fl ps' body 1 h4 fun i p e => by
        show (self :: ps')[1 + i]? = some p
        rw [Nat.add_comm]
        exact e
    · obtain ⟨hl, a, vs', rfl, ha, hq⟩ := z
      have hlv : fl.length = vs'.length := by simpa using hl.symm
      have gets : ∀ i v, vs'[i]? = some v → (L2.start (self :: ps') (.ref a :: vs'))[1 + i]? = some (some v) := fun i v e => by
        unfold L2.start
        rw [Nat.add_comm, List.map_cons, List.cons_append, List.getElem?_cons_succ, List.getElem?_append_left (by rw [List.length_map]; exact (List.getElem?_eq_some_iff.mp e).1), List.getElem?_map, e]
        rfl
      cases fl with
      | nil => exact absurd rfl h1
      | cons f fl =>
        cases vs' with
        | nil => simp at hlv
        | cons v vs' =>
          refine ⟨v, gets 0 v rfl, _, rfl, a, C, rfl, c.oex, c.no f List.mem_cons_self, .inl ⟨ha, fun d hd hne => ?_⟩⟩
          have hna : a ≠ d := Ne.symm hne
          refine ini_read c.oex hne rfl fl vs' 2 [(f, v)] _ (fun g hg => c.no g (List.mem_cons_of_mem _ hg)) (by simpa using hlv) (fun i w e => ?_) (by simp only [List.length_cons, List.length_nil] at h2 ⊢; omega) upd_same (by rw [upd_ne hne]; exact upd_same) fun H2 e1 e2 e3 => ?_
          · have := gets (i + 1) w e
            rw [← this]
            congr 1
            omega
          · refine hq d H2 hd hne e1 (by rw [e2, List.zip_cons_cons, List.reverse_cons]) fun b n1 n2 => ?_
            rw [e3 b n1 n2, upd_ne n1, upd_ne n2]
  · cases h
end Uq

set_option maxHeartbeats 2000000
/-! Uq, part y: the law. -/
namespace Uq
open PySem PySem.Spec PyProof.Rows L2
theorem FunD.shp {Kf : PySem.W.Frag} {x qual : Str} {a : Arguments} {body : List Stmt} {sc : Scope} {f : Addr} {fd : FuncData} {ps : List Str} {n : Nat} {ks : List Str} (F : FunD Kf x qual a body sc [] [] f fd)
    (h : ∀ (kV doc pm : Value) (an : Option Addr) (cdv ct : Value) (us ws : List Value), us.length = n → ws.length = ks.length → bindArgs (PySem.W.fnOf x qual a body sc .none kV doc pm an cdv ct) ⟨us, ks.zip ws⟩ = pure (ps.zip (permU (pmOf ps n ks) us ws))) : Shp Kf fd ps n ks := by
  obtain ⟨oc, od, dV, kV, doc, pm, an, cdv, ct, osl, rfl, lk, hcd, hD, hK⟩ := F.ex
  rcases hD with ⟨_, rfl⟩ | ⟨e, _⟩
  · exact Shp.of fun s us ws _ l1 l2 => .of_eq (h kV doc pm an cdv ct us ws l1 l2)
  · exact absurd rfl e
theorem sh_nil {Q : Nat → List Str → Prop} : ∀ n ks, (n, ks) ∈ ([] : List (Nat × List Str)) → Q n ks := fun _ _ h => (List.not_mem_nil h).elim
theorem sh_cons {Q : Nat → List Str → Prop} {m : Nat} {js : List Str} {l : List (Nat × List Str)} (h : Q m js) (r : ∀ n ks, (n, ks) ∈ l → Q n ks) : ∀ n ks, (n, ks) ∈ (m, js) :: l → Q n ks := fun n ks hm => by
  rcases List.mem_cons.mp hm with e | e
  · cases e; exact h
  · exact r n ks e
section
variable {Kf : PySem.W.Frag} {mg : Str → Option Value} {cf : Cf} {T : Nat → Option Fn} {x : Str} {f : Nat} {fn : Fn} {st : Stmt}
abbrev FnS (Kf : PySem.W.Frag) (x : Str) (st : Stmt) (fd : FuncData) : Prop := FunD Kf x x (defArgs st) (defBody st) (defScope st) [] [] (He.ga Kf x) fd
theorem df_at (N : List Str) {fd : FuncData} (g : mg x = some (.ref (He.ga Kf x))) (F : FnS Kf x st fd) (hb : Binds Kf fd (cf.prm f) []) (hs : ∀ n ks, (n, ks) ∈ cf.shp f → Shp Kf fd (cf.prm f) n ks)
    (hT : T f = some fn) (hc : chkD { cf with N := N } f fn (defBody st) (defScope st) = true) : DfAt Kf mg cf T x f (He.ga Kf x) fd :=
  ⟨fn, N, x, _, _, _, g, F.kp, hb, hs, hT, F, hc⟩
theorem df_of (N : List Str) (g : mg x = some (.ref (He.ga Kf x))) (F : ∃ fd, FnS Kf x st fd) (hb : ∀ fd, FnS Kf x st fd → Binds Kf fd (cf.prm f) []) (hs : ∀ fd, FnS Kf x st fd → ∀ n ks, (n, ks) ∈ cf.shp f → Shp Kf fd (cf.prm f) n ks)
    (hT : T f = some fn) (hc : chkD { cf with N := N } f fn (defBody st) (defScope st) = true) : ∃ fa fd, DfAt Kf mg cf T x f fa fd :=
  let ⟨fd, F⟩ := F
  ⟨_, fd, ⟨fn, N, x, _, _, _, g, F.kp, hb fd F, hs fd F, hT, F, hc⟩⟩
theorem df_ofV (N : List Str) (g : mg x = some (.ref (He.ga Kf x))) (F : ∃ fd, FnS Kf x st fd) (hb : ∀ fd, FnS Kf x st fd → BndV Kf fd (cf.prm f)) (hl : (cf.prm f).length = 1)
    (hT : T f = some fn) (hc : chkD { cf with N := N } f fn (defBody st) (defScope st) = true) : ∃ fa fd, DfAtV Kf mg cf T x f fa fd :=
  let ⟨fd, F⟩ := F
  ⟨_, fd, ⟨fn, N, x, _, _, _, g, F.kp, hb fd F, hl, hT, F, hc⟩⟩
end
section
variable {prog : Program} {w : World} {Kf : PySem.W.Frag} {mg : Str → Option Value} {base : Heap} {P : Pg} {cf : Cf} {T : Nat → Option Fn} {sub : Nat → Nat → Bool} {x : Str} {f : Nat} {fa : Addr} {fd : FuncData} {ps : List Str}
/-- the law's promise -/
def spLaw (Kf : PySem.W.Frag) (P : Pg) (T : Nat → Option Fn) (sub : Nat → Nat → Bool) (n f : Nat) : Sp := fun vs H Q _ => spF Kf P 1 (wC T sub P.flds n f) vs H Q fun _ _ _ => False
theorem law_fn (R : Pr prog w Kf mg base P cf T sub) (hx : DfAt Kf mg cf T x f fa fd) (hp : cf.prm f = ps) (hl : ps.length = 1) (n : Nat) : FnOk prog w Kf mg base CX0 (n + 2) fa fd ps (spLaw Kf P T sub n f) := by
  have F := fn_ok R n x f fa fd hx
  rw [hp, hl] at F
  refine ⟨fun vs H Q E h => F.len vs H Q _ h, fun A outer s H args us vs Q E hr he hb hv h => codeAny_mono (F.run A outer s H args us vs Q (fun _ _ _ => False) hr he hb hv h) fun r s' q => ?_⟩
  cases r with
  | error e =>
    obtain ⟨_, _, _, _, _, _, _, _, _, _, _, _, z⟩ := q
    exact z.elim
  | ok fl => cases fl <;> exact q
theorem law_sp {n most : Nat} (h : ∀ ns : List Int, ns.length ≤ most → wC T sub P.flds n f [lk ns] (fun d => d = .bool true) fun _ _ => False) (H : Hp) (a : Addr) (ns : List Int) (hl : ns.length ≤ most) (hO : Only H) (hS : SqL Kf H a (ns.map V.int)) :
    spLaw Kf P T sub n f [.ref a] H (fun v _ => v = .bl true) fun _ _ _ => False := by
  have hk : LkL Kf H a (ns.map V.int) := by
    rcases hS with hS | hS
    · rcases hS with hS | ⟨o, hS⟩
      · rcases hO a with z | ⟨o, xs, z⟩
        · rw [hS] at z; cases z
        · rw [hS] at z; cases z
      · exact .inl ⟨o, hS⟩
    · exact .inr hS
  refine ⟨[lk ns], fun _ => True, _, _, .one ?_, fun _ _ => trivial, h ns hl, rfl, fun d v H' _ r q => ?_, fun k fs cv dx H' _ _ q => q.elim⟩
  · unfold lk
    simp only [Rp]
    exact ⟨a, ns, rfl, hk, rfl⟩
  · subst q
    exact r.bl_
end
end Uq
namespace Uq
open PySem
/-- a name's place -/
def ixOf : List Str → Str → Option Nat
  | [], _ => none
  | y :: r, x => if x = y then some 0 else (ixOf r x).map (· + 1)
theorem ixOf_get : ∀ {l : List Str} {x : Str} {i : Nat}, ixOf l x = some i → l[i]? = some x
  | [], x, i, h => by cases h
  | y :: r, x, i, h => by
    unfold ixOf at h
    split at h
    · rename_i e
      cases h
      rw [e]; rfl
    · cases q : ixOf r x with
      | none => rw [q] at h; cases h
      | some j =>
        rw [q] at h
        have e : j + 1 = i := Option.some.inj h
        subst e
        show r[j]? = some x
        exact ixOf_get q
theorem getD_of {l : List Str} {x d : Str} {i : Nat} (h : l[i]? = some x) : l.getD i d = x := by
  rw [List.getD_eq_getElem?_getD, h]; rfl
end Uq

set_option maxHeartbeats 0
namespace K01
open PySem Uq
abbrev f_is_integer : Nat := 0
abbrev f_is_number : Nat := 1
abbrev f__divisor : Nat := 2
abbrev f_is_quotient : Nat := 3
abbrev f_is_stretch : Nat := 4
abbrev f_is_lot : Nat := 5
abbrev f_is_asks : Nat := 6
abbrev f_is_queue : Nat := 7
abbrev f_asks_of : Nat := 8
abbrev f_order_fault : Nat := 9
abbrev f_wide_asks : Nat := 10
abbrev f_covered : Nat := 11
abbrev f_clubs_of : Nat := 12
abbrev f_longest_end : Nat := 13
abbrev f__asks_usable : Nat := 14
abbrev f_lets_asks : Nat := 15
abbrev f_quotient_of : Nat := 16
abbrev f_plus : Nat := 17
abbrev f_minus : Nat := 18
abbrev f_times : Nat := 19
abbrev f_less : Nat := 20
abbrev f__both_quotients : Nat := 21
abbrev f__lowest : Nat := 22
abbrev f__law_nums : Nat := 23
abbrev f__law_int : Nat := 24
abbrev f__law_number : Nat := 25
abbrev f__law_same : Nat := 26
abbrev f__law_divisor : Nat := 27
abbrev f__law_quotient : Nat := 28
abbrev f__law_stretch : Nat := 29
abbrev f__law_lot : Nat := 30
abbrev f__law_checked : Nat := 31
abbrev f__law_fault : Nat := 32
abbrev f__law_queue : Nat := 33
abbrev f__law_line : Nat := 34
abbrev f__law_share : Nat := 35
abbrev f__law_clubs : Nat := 36
abbrev f__law_call : Nat := 37
abbrev f__law_made : Nat := 38
abbrev f__law_stretches : Nat := 39
abbrev f__law_things : Nat := 40
abbrev f__law_kinds : Nat := 41
abbrev f__law_fraction : Nat := 42
abbrev f__law_lowest : Nat := 43
abbrev f__law_stands : Nat := 44
abbrev f__law_sums : Nat := 45
abbrev f__law_refused : Nat := 46
abbrev f__law_odd_sums : Nat := 47
abbrev f__law_rows : Nat := 48
abbrev f__law_spoilt : Nat := 49
abbrev f_law : Nat := 50
def rz : List Nat := [3, 4]
def xcN : List Str := [Str.ofString "UnderError", Str.ofString "PaperError", Str.ofString "AskError", Str.ofString "InvalidPaper", Str.ofString "NotUsable"]
def flds (c : Nat) : List Str := match c with
  | 3 => [Str.ofString "word", Str.ofString "at"]
  | 4 => [Str.ofString "word", Str.ofString "at"]
  | _ => []
def sub (a b : Nat) : Bool := match a, b with
  | 0, 0 => true
  | 0, 1000 => true
  | 1, 0 => true
  | 1, 1 => true
  | 1, 1000 => true
  | 2, 0 => true
  | 2, 2 => true
  | 2, 1000 => true
  | 3, 0 => true
  | 3, 1 => true
  | 3, 3 => true
  | 3, 1000 => true
  | 4, 0 => true
  | 4, 2 => true
  | 4, 4 => true
  | 4, 1000 => true
  | _, _ => false
def fn_is_integer : Fn := ⟨1, 1, [
  .ret (.and (.isi (.var 0) [.int]) (.not (.isi (.var 0) [.bool])))]⟩
def fn_is_number : Fn := ⟨1, 1, [
  .ret (.and (.call f_is_integer [] [(.var 0)]) (.cmp .ge (.var 0) (.int 0)))]⟩
def fn__divisor : Fn := ⟨2, 2, [
  .wh (.cmp .gt (.var 1) (.int 0)) [.par 0 1 (.var 1) (.bin .mod (.var 0) (.var 1))],
  .ret (.var 0)]⟩
def fn_is_quotient : Fn := ⟨1, 3, [
  .ite (.or (.not (.isi (.var 0) [.tuple])) (.cmp .ne (.bi .len [(.var 0)]) (.int 2))) [.ret (.bl false)] [],
  .unp [1, 2] (.var 0),
  .ite (.or (.not (.call f_is_integer [] [(.var 1)])) (.or (.not (.call f_is_integer [] [(.var 2)])) (.cmp .lt (.var 2) (.int 1)))) [.ret (.bl false)] [],
  .ret (.cmp .eq (.call f__divisor [] [(.bi .abs [(.var 1)]), (.var 2)]) (.int 1))]⟩
def fn_is_stretch : Fn := ⟨1, 3, [
  .ite (.or (.not (.isi (.var 0) [.tuple])) (.cmp .ne (.bi .len [(.var 0)]) (.int 2))) [.ret (.bl false)] [],
  .unp [1, 2] (.var 0),
  .ret (.and (.call f_is_number [] [(.var 1)]) (.and (.call f_is_number [] [(.var 2)]) (.cmp .lt (.var 1) (.var 2))))]⟩
def fn_is_lot : Fn := ⟨1, 3, [
  .ite (.not (.isi (.var 0) [.tuple])) [.ret (.bl false)] [],
  .asg 1 (.int 0),
  .fr (.nm 2) .val [(.var 0)] [.ite (.or (.not (.call f_is_number [] [(.var 2)])) (.cmp .lt (.var 2) (.var 1))) [.ret (.bl false)] [], .asg 1 (.bin .add (.var 2) (.int 1)), .kil [2]],
  .kil [1, 2],
  .ret (.bl true)]⟩
def fn_is_asks : Fn := ⟨1, 3, [
  .ite (.not (.isi (.var 0) [.tuple])) [.ret (.bl false)] [],
  .asg 1 (.tup [(.neg (.int 1)), (.neg (.int 1))]),
  .fr (.nm 2) .val [(.var 0)] [.ite (.or (.not (.call f_is_stretch [] [(.var 2)])) (.cmp .le (.var 2) (.var 1))) [.ret (.bl false)] [], .asg 1 (.var 2), .kil [2]],
  .kil [1, 2],
  .ret (.bl true)]⟩
def fn_is_queue : Fn := ⟨1, 3, [
  .ite (.not (.call f_is_asks [] [(.var 0)])) [.ret (.bl false)] [],
  .asg 1 (.int 0),
  .fr (.nm 2) .val [(.var 0)] [.ite (.cmp .lt (.ix (.var 2) (.int 1)) (.var 1)) [.ret (.bl false)] [], .asg 1 (.ix (.var 2) (.int 1)), .kil [2]],
  .kil [1, 2],
  .ret (.bl true)]⟩
def fn_asks_of : Fn := ⟨1, 3, [
  .fr (.tp [1, 2]) .enum [(.var 0)] [.ite (.not (.call f_is_stretch [] [(.var 2)])) [.rai 4 [(.str "stretches"), (.var 1)]] [], .kil [1, 2]],
  .kil [1, 2],
  .ret (.bi .tuple [(.bi .sset [(.var 0)])])]⟩
def fn_order_fault : Fn := ⟨1, 4, [
  .exp (.call f__asks_usable [] [(.var 0)]),
  .fr (.tp [1, 2]) .enum [(.var 0)] [.kil [3], .fr (.nm 3) .val [(.sl (.var 0) (.bin .add (.var 1) (.int 1)) .non)] [.ite (.cmp .lt (.ix (.var 3) (.int 1)) (.ix (.var 2) (.int 1))) [.ret (.tup [(.var 2), (.var 3)])] [], .kil [3]], .kil [2, 3], .kil [1, 2, 3]],
  .kil [1, 2, 3],
  .ret .non]⟩
def fn_wide_asks : Fn := ⟨1, 2, [
  .exp (.call f__asks_usable [] [(.var 0)]),
  .ret (.bi .tuple [(.lc (.var 1) (.nm 1) .val [(.var 0)] [(.cmp .ge (.bin .sub (.ix (.var 1) (.int 1)) (.ix (.var 1) (.int 0))) (.int 2))])])]⟩
def fn_covered : Fn := ⟨1, 5, [
  .exp (.call f__asks_usable [] [(.var 0)]),
  .asg 1 (.lst []),
  .fr (.tp [2, 3]) .val [(.var 0)] [.asg 4 (.var 2), .ite (.and (.var 1) (.cmp .ge (.ix (.var 1) (.neg (.int 1))) (.var 2))) [.asg 4 (.bin .add (.ix (.var 1) (.neg (.int 1))) (.int 1))] [], .ext 1 (.bi .lrng2 [(.var 4), (.var 3)]), .kil [2, 3, 4]],
  .kil [2, 3, 4],
  .ret (.bi .tuple [(.var 1)])]⟩
def fn_clubs_of : Fn := ⟨1, 5, [
  .nnew 1,
  .asg 2 (.int 0),
  .fr (.nm 3) .val [(.call f_wide_asks [] [(.var 0)])] [.ite (.or (.not (.var 1)) (.cmp .ge (.ix (.var 3) (.int 0)) (.var 2))) [.napp 1] [], .nadd 1 (.neg (.int 1)) (.var 3), .asg 2 (.bi .max [(.var 2), (.ix (.var 3) (.int 1))]), .kil [3]],
  .kil [2, 3],
  .ret (.bi .tuple [(.lc (.bi .tuple [(.var 4)]) (.nm 4) .val [(.var 1)] [])])]⟩
def fn_longest_end : Fn := ⟨1, 2, [
  .exp (.call f__asks_usable [] [(.var 0)]),
  .ret (.bi .maxd [(.lc (.ix (.var 1) (.int 1)) (.nm 1) .val [(.var 0)] []), (.int 0)])]⟩
def fn__asks_usable : Fn := ⟨1, 1, [
  .ite (.not (.call f_is_asks [] [(.var 0)])) [.rai 4 [(.str "asks"), (.neg (.int 1))]] []]⟩
def fn_lets_asks : Fn := ⟨1, 3, [
  .ite (.not (.isi (.var 0) [.tuple])) [.rai 3 [(.str "shape"), (.neg (.int 1))]] [],
  .fr (.tp [1, 2]) .enum [(.var 0)] [.ite (.not (.call f_is_stretch [] [(.var 2)])) [.rai 3 [(.str "ask"), (.var 1)]] [], .ite (.and (.cmp .gt (.var 1) (.int 0)) (.cmp .le (.var 2) (.ix (.var 0) (.bin .sub (.var 1) (.int 1))))) [.rai 3 [(.str "order"), (.var 1)]] [], .kil [1, 2]],
  .kil [1, 2],
  .ret (.bi .len [(.var 0)])]⟩
def fn_quotient_of : Fn := ⟨2, 2, [
  .ite (.not (.call f_is_integer [] [(.var 0)])) [.rai 4 [(.str "top"), (.neg (.int 1))]] [],
  .ite (.or (.not (.call f_is_integer [] [(.var 1)])) (.cmp .eq (.var 1) (.int 0))) [.rai 4 [(.str "bottom"), (.neg (.int 1))]] [],
  .ret (.call f__lowest [] [(.var 0), (.var 1)])]⟩
def fn_plus : Fn := ⟨2, 2, [
  .exp (.call f__both_quotients [] [(.var 0), (.var 1)]),
  .ret (.call f__lowest [] [(.bin .add (.bin .mul (.ix (.var 0) (.int 0)) (.ix (.var 1) (.int 1))) (.bin .mul (.ix (.var 1) (.int 0)) (.ix (.var 0) (.int 1)))), (.bin .mul (.ix (.var 0) (.int 1)) (.ix (.var 1) (.int 1)))])]⟩
def fn_minus : Fn := ⟨2, 2, [
  .exp (.call f__both_quotients [] [(.var 0), (.var 1)]),
  .ret (.call f__lowest [] [(.bin .sub (.bin .mul (.ix (.var 0) (.int 0)) (.ix (.var 1) (.int 1))) (.bin .mul (.ix (.var 1) (.int 0)) (.ix (.var 0) (.int 1)))), (.bin .mul (.ix (.var 0) (.int 1)) (.ix (.var 1) (.int 1)))])]⟩
def fn_times : Fn := ⟨2, 2, [
  .exp (.call f__both_quotients [] [(.var 0), (.var 1)]),
  .ret (.call f__lowest [] [(.bin .mul (.ix (.var 0) (.int 0)) (.ix (.var 1) (.int 0))), (.bin .mul (.ix (.var 0) (.int 1)) (.ix (.var 1) (.int 1)))])]⟩
def fn_less : Fn := ⟨2, 2, [
  .exp (.call f__both_quotients [] [(.var 0), (.var 1)]),
  .ret (.cmp .lt (.bin .mul (.ix (.var 0) (.int 0)) (.ix (.var 1) (.int 1))) (.bin .mul (.ix (.var 1) (.int 0)) (.ix (.var 0) (.int 1))))]⟩
def fn__both_quotients : Fn := ⟨2, 2, [
  .ite (.not (.call f_is_quotient [] [(.var 0)])) [.rai 4 [(.str "one"), (.neg (.int 1))]] [],
  .ite (.not (.call f_is_quotient [] [(.var 1)])) [.rai 4 [(.str "other"), (.neg (.int 1))]] []]⟩
def fn__lowest : Fn := ⟨2, 3, [
  .asg 2 (.call f__divisor [] [(.bi .abs [(.var 0)]), (.bi .abs [(.var 1)])]),
  .ite (.cmp .lt (.var 1) (.int 0)) [.asg 2 (.neg (.var 2))] [],
  .ret (.tup [(.bin .fdiv (.var 0) (.var 2)), (.bin .fdiv (.var 1) (.var 2))])]⟩
def fn__law_nums : Fn := ⟨3, 10, [
  .asg 3 (.int 0),
  .ite (.cmp .lt (.var 1) (.bi .len [(.var 0)])) [.asg 3 (.ix (.var 0) (.var 1))] [],
  .ite (.cmp .lt (.var 3) (.int 0)) [.asg 3 (.bin .sub (.int 11) (.bin .mul (.int 2) (.var 3)))] [],
  .asg 4 (.bin .add (.int 907) (.bin .mul (.int 13) (.bi .len [(.var 0)]))),
  .fr (.nm 5) .val [(.var 0)] [.asg 4 (.bin .mod (.bi .int [(.bin .add (.bin .mul (.var 4) (.int 7129)) (.var 5))]) (.int 998244353)), .kil [5]],
  .kil [5],
  .asg 6 (.cmp .ge (.var 3) (.int 1000000000000000000)),
  .asg 7 (.bin .mod (.bi .int [(.bin .add (.bin .add (.bin .add (.bin .mul (.var 4) (.int 271)) (.bin .mul (.var 3) (.int 53))) (.bin .mul (.var 1) (.int 15073))) (.int 71))]) (.int 2147483587)),
  .asg 8 (.lst []),
  .kil [4, 5],
  .fr (.nm 9) .val [(.var 2)] [.ite (.and (.var 6) (.cmp .gt (.var 3) (.int 0))) [.app 8 (.bin .mod (.bi .int [(.var 3)]) (.var 9)), .asg 3 (.bin .fdiv (.var 3) (.var 9))] [.asg 7 (.bin .mod (.bi .int [(.bin .add (.bin .mul (.var 7) (.int 62089911)) (.int 4177))]) (.int 2147483587)), .app 8 (.bin .mod (.bi .int [(.bin .fdiv (.var 7) (.int 131))]) (.var 9))], .kil [9]],
  .kil [3, 6, 7, 9],
  .ret (.var 8)]⟩
def fn__law_int : Fn := ⟨1, 1, [
  .ret (.and (.isi (.var 0) [.int]) (.not (.isi (.var 0) [.bool])))]⟩
def fn__law_number : Fn := ⟨1, 1, [
  .ret (.and (.call f__law_int [] [(.var 0)]) (.cmp .ge (.var 0) (.int 0)))]⟩
def fn__law_same : Fn := ⟨2, 3, [
  .ite (.or (.isN false (.var 1)) (.isN false (.var 0))) [.ret (.and (.isN false (.var 1)) (.isN false (.var 0)))] [],
  .ite (.or (.isi (.var 1) [.bool]) (.isi (.var 0) [.bool])) [.ret (.and (.isi (.var 1) [.bool]) (.and (.isi (.var 0) [.bool]) (.cmp .eq (.var 0) (.var 1))))] [],
  .ite (.isi (.var 1) [.int]) [.ret (.and (.isi (.var 0) [.int]) (.cmp .eq (.var 0) (.var 1)))] [],
  .ite (.isi (.var 1) [.str]) [.ret (.and (.isi (.var 0) [.str]) (.cmp .eq (.var 0) (.var 1)))] [],
  .ite (.or (.not (.isi (.var 0) [.tuple])) (.cmp .ne (.bi .len [(.var 0)]) (.bi .len [(.var 1)]))) [.ret (.bl false)] [],
  .ret (.bi .all [(.lc (.call f__law_same [] [(.ix (.var 0) (.var 2)), (.ix (.var 1) (.var 2))]) (.nm 2) .rng1 [(.bi .len [(.var 1)])] [])])]⟩
def fn__law_divisor : Fn := ⟨2, 4, [
  .asg 2 (.lst [(.bi .abs [(.bi .int [(.var 0)])]), (.bi .abs [(.bi .int [(.var 1)])])]),
  .fr (.nm 3) .rng1 [(.bin .add (.bin .mul (.int 2) (.bi .bits [(.bi .max [(.ix (.var 2) (.int 0)), (.ix (.var 2) (.int 1))])])) (.int 2))] [.ite (.cmp .eq (.ix (.var 2) (.int 1)) (.int 0)) [.kil [3], .brk] [], .asg 2 (.lst [(.ix (.var 2) (.int 1)), (.bin .mod (.bi .int [(.ix (.var 2) (.int 0))]) (.ix (.var 2) (.int 1)))]), .kil [3]],
  .kil [3],
  .ret (.ix (.var 2) (.int 0))]⟩
def fn__law_quotient : Fn := ⟨1, 1, [
  .ite (.or (.not (.isi (.var 0) [.tuple])) (.or (.cmp .ne (.bi .len [(.var 0)]) (.int 2)) (.or (.not (.call f__law_int [] [(.ix (.var 0) (.int 0))])) (.not (.call f__law_int [] [(.ix (.var 0) (.int 1))]))))) [.ret (.bl false)] [],
  .ret (.and (.cmp .ge (.ix (.var 0) (.int 1)) (.int 1)) (.cmp .eq (.call f__law_divisor [] [(.ix (.var 0) (.int 0)), (.ix (.var 0) (.int 1))]) (.int 1)))]⟩
def fn__law_stretch : Fn := ⟨1, 1, [
  .ite (.or (.not (.isi (.var 0) [.tuple])) (.or (.cmp .ne (.bi .len [(.var 0)]) (.int 2)) (.or (.not (.call f__law_number [] [(.ix (.var 0) (.int 0))])) (.not (.call f__law_number [] [(.ix (.var 0) (.int 1))]))))) [.ret (.bl false)] [],
  .ret (.cmp .lt (.ix (.var 0) (.int 0)) (.ix (.var 0) (.int 1)))]⟩
def fn__law_lot : Fn := ⟨1, 3, [
  .ite (.not (.isi (.var 0) [.tuple])) [.ret (.bl false)] [],
  .asg 1 (.neg (.int 1)),
  .fr (.nm 2) .val [(.var 0)] [.ite (.or (.not (.call f__law_int [] [(.var 2)])) (.cmp .le (.var 2) (.var 1))) [.ret (.bl false)] [], .asg 1 (.var 2), .kil [2]],
  .kil [1, 2],
  .ret (.bl true)]⟩
def fn__law_checked : Fn := ⟨1, 2, [
  .ite (.not (.isi (.var 0) [.tuple])) [.ret (.tup [(.str "paper"), (.str "shape"), (.neg (.int 1)), (.bl true)])] [],
  .fr (.nm 1) .rng1 [(.bi .len [(.var 0)])] [.ite (.not (.call f__law_stretch [] [(.ix (.var 0) (.var 1))])) [.ret (.tup [(.str "paper"), (.str "ask"), (.var 1), (.bl true)])] [], .ite (.and (.cmp .gt (.var 1) (.int 0)) (.not (.cmp .lt (.ix (.var 0) (.bin .sub (.var 1) (.int 1))) (.ix (.var 0) (.var 1))))) [.ret (.tup [(.str "paper"), (.str "order"), (.var 1), (.bl true)])] [], .kil [1]],
  .kil [1],
  .ret (.tup [(.str "ok"), (.bi .len [(.var 0)])])]⟩
def fn__law_fault : Fn := ⟨1, 4, [
  .fr (.nm 1) .val [(.var 0)] [.kil [2, 3], .fr (.nm 2) .val [(.var 0)] [.asg 3 (.bin .sub (.ix (.var 2) (.int 0)) (.int 1)), .ite (.and (.cmp .le (.ix (.var 1) (.int 0)) (.var 3)) (.cmp .lt (.ix (.var 2) (.int 1)) (.ix (.var 1) (.int 1)))) [.ret (.tup [(.var 1), (.var 2)])] [], .kil [2, 3]], .kil [1, 2, 3], .kil [1, 2, 3]],
  .kil [1, 2, 3],
  .ret .non]⟩
def fn__law_queue : Fn := ⟨1, 1, [
  .ret (.and (.cmp .eq (.ix (.call f__law_checked [] [(.var 0)]) (.int 0)) (.str "ok")) (.isN false (.call f__law_fault [] [(.var 0)])))]⟩
def fn__law_line : Fn := ⟨1, 3, [
  .asg 1 (.lst []),
  .fr (.nm 2) .val [(.bi .sorted [(.var 0)])] [.ite (.or (.cmp .eq (.bi .len [(.var 1)]) (.int 0)) (.cmp .ne (.ix (.var 1) (.neg (.int 1))) (.var 2))) [.app 1 (.var 2)] [], .kil [2]],
  .kil [2],
  .ret (.bi .tuple [(.var 1)])]⟩
def fn__law_share : Fn := ⟨2, 3, [
  .ret (.cmp .gt (.bi .len [(.lc (.var 2) (.nm 2) .val [(.var 0)] [(.cmp .lt (.bi .max [(.ix (.var 2) (.int 0)), (.ix (.var 1) (.int 0))]) (.bi .min [(.ix (.var 2) (.int 1)), (.ix (.var 1) (.int 1))]))])]) (.int 0))]⟩
def fn__law_clubs : Fn := ⟨1, 6, [
  .asg 1 (.lst []),
  .fr (.nm 2) .val [(.var 0)] [.asg 3 (.lst [(.var 2)]), .asg 4 (.lst []), .fr (.nm 5) .val [(.var 1)] [.ite (.call f__law_share [] [(.var 5), (.var 2)]) [.asg 3 (.bin .add (.var 3) (.var 5))] [.app 4 (.var 5)]], .kil [2], .asg 1 (.bin .add (.var 4) (.lst [(.bi .sorted [(.var 3)])])), .kil [2, 3, 4]],
  .kil [2, 3, 4],
  .ret (.bi .tuple [(.lc (.bi .tuple [(.var 5)]) (.nm 5) .val [(.bi .sorted [(.var 1)])] [])])]⟩
def fn__law_call : Fn := ⟨3, 4, [
  .tri [.ite (.cmp .eq (.var 0) (.str "lets_asks")) [.ret (.tup [(.str "ok"), (.call f_lets_asks [] [(.var 1)])])] [], .ite (.cmp .eq (.var 0) (.str "order_fault")) [.ret (.tup [(.str "ok"), (.call f_order_fault [] [(.var 1)])])] [], .ite (.cmp .eq (.var 0) (.str "wide_asks")) [.ret (.tup [(.str "ok"), (.call f_wide_asks [] [(.var 1)])])] [], .ite (.cmp .eq (.var 0) (.str "covered")) [.ret (.tup [(.str "ok"), (.call f_covered [] [(.var 1)])])] [], .ite (.cmp .eq (.var 0) (.str "clubs_of")) [.ret (.tup [(.str "ok"), (.call f_clubs_of [] [(.var 1)])])] [], .ite (.cmp .eq (.var 0) (.str "longest_end")) [.ret (.tup [(.str "ok"), (.call f_longest_end [] [(.var 1)])])] [], .ite (.cmp .eq (.var 0) (.str "quotient_of")) [.ret (.tup [(.str "ok"), (.call f_quotient_of [] [(.var 1), (.var 2)])])] [], .ite (.cmp .eq (.var 0) (.str "plus")) [.ret (.tup [(.str "ok"), (.call f_plus [] [(.var 1), (.var 2)])])] [], .ite (.cmp .eq (.var 0) (.str "minus")) [.ret (.tup [(.str "ok"), (.call f_minus [] [(.var 1), (.var 2)])])] [], .ite (.cmp .eq (.var 0) (.str "times")) [.ret (.tup [(.str "ok"), (.call f_times [] [(.var 1), (.var 2)])])] [], .ret (.tup [(.str "ok"), (.call f_less [] [(.var 1), (.var 2)])])] [4, 3] [some 3, some 3] [[.ret (.tup [(.str "no"), (.xf 3 "word"), (.xf 3 "at"), (.and (.xis 3 2) (.not (.xis 3 1)))])], [.ret (.tup [(.str "paper"), (.xf 3 "word"), (.xf 3 "at"), (.and (.xis 3 1) (.xis 3 0))])]]]⟩
def fn__law_made : Fn := ⟨1, 2, [
  .tri [.ite (.cmp .eq (.bi .len [(.var 0)]) (.int 0)) [.ret (.tup [(.str "ok"), (.callv f_asks_of [])])] [], .ite (.cmp .eq (.bi .len [(.var 0)]) (.int 1)) [.ret (.tup [(.str "ok"), (.callv f_asks_of [(.ix (.var 0) (.int 0))])])] [], .ite (.cmp .eq (.bi .len [(.var 0)]) (.int 2)) [.ret (.tup [(.str "ok"), (.callv f_asks_of [(.ix (.var 0) (.int 0)), (.ix (.var 0) (.int 1))])])] [], .ite (.cmp .eq (.bi .len [(.var 0)]) (.int 3)) [.ret (.tup [(.str "ok"), (.callv f_asks_of [(.ix (.var 0) (.int 0)), (.ix (.var 0) (.int 1)), (.ix (.var 0) (.int 2))])])] [], .ite (.cmp .eq (.bi .len [(.var 0)]) (.int 4)) [.ret (.tup [(.str "ok"), (.callv f_asks_of [(.ix (.var 0) (.int 0)), (.ix (.var 0) (.int 1)), (.ix (.var 0) (.int 2)), (.ix (.var 0) (.int 3))])])] [], .ite (.cmp .eq (.bi .len [(.var 0)]) (.int 5)) [.ret (.tup [(.str "ok"), (.callv f_asks_of [(.ix (.var 0) (.int 0)), (.ix (.var 0) (.int 1)), (.ix (.var 0) (.int 2)), (.ix (.var 0) (.int 3)), (.ix (.var 0) (.int 4))])])] [], .ite (.cmp .eq (.bi .len [(.var 0)]) (.int 6)) [.ret (.tup [(.str "ok"), (.callv f_asks_of [(.ix (.var 0) (.int 0)), (.ix (.var 0) (.int 1)), (.ix (.var 0) (.int 2)), (.ix (.var 0) (.int 3)), (.ix (.var 0) (.int 4)), (.ix (.var 0) (.int 5))])])] [], .ite (.cmp .eq (.bi .len [(.var 0)]) (.int 7)) [.ret (.tup [(.str "ok"), (.callv f_asks_of [(.ix (.var 0) (.int 0)), (.ix (.var 0) (.int 1)), (.ix (.var 0) (.int 2)), (.ix (.var 0) (.int 3)), (.ix (.var 0) (.int 4)), (.ix (.var 0) (.int 5)), (.ix (.var 0) (.int 6))])])] [], .ite (.cmp .eq (.bi .len [(.var 0)]) (.int 8)) [.ret (.tup [(.str "ok"), (.callv f_asks_of [(.ix (.var 0) (.int 0)), (.ix (.var 0) (.int 1)), (.ix (.var 0) (.int 2)), (.ix (.var 0) (.int 3)), (.ix (.var 0) (.int 4)), (.ix (.var 0) (.int 5)), (.ix (.var 0) (.int 6)), (.ix (.var 0) (.int 7))])])] [], .ret (.tup [(.str "ok"), (.callv f_asks_of [(.ix (.var 0) (.int 0)), (.ix (.var 0) (.int 1)), (.ix (.var 0) (.int 2)), (.ix (.var 0) (.int 3)), (.ix (.var 0) (.int 4)), (.ix (.var 0) (.int 5)), (.ix (.var 0) (.int 6)), (.ix (.var 0) (.int 7)), (.ix (.var 0) (.int 8)), (.ix (.var 0) (.int 9)), (.ix (.var 0) (.int 10)), (.ix (.var 0) (.int 11))])])] [4] [some 1] [[.ret (.tup [(.str "no"), (.xf 1 "word"), (.xf 1 "at"), (.and (.xis 1 2) (.not (.xis 1 1)))])]]]⟩
def fn__law_stretches : Fn := ⟨1, 11, [
  .asg 1 (.ix (.var 0) (.int 1)),
  .ite (.cmp .eq (.ix (.var 0) (.int 0)) (.int 7)) [.asg 1 (.bin .add (.int 20) (.ix (.var 0) (.int 3)))] [],
  .asg 2 (.bin .add (.int 1) (.bin .mul (.bin .mul (.int 4) (.ix (.var 0) (.int 2))) (.bi .int [(.cmp .lt (.ix (.var 0) (.int 0)) (.int 7))]))),
  .asg 3 (.lst []),
  .asg 4 (.int 0),
  .asg 5 (.int 0),
  .fr (.nm 6) .rng1 [(.var 1)] [.asg 7 (.ix (.var 0) (.bin .add (.int 4) (.bin .mul (.int 2) (.var 6)))), .asg 8 (.ix (.var 0) (.bin .add (.int 5) (.bin .mul (.int 2) (.var 6)))), .ite (.cmp .lt (.ix (.var 0) (.int 0)) (.int 3)) [.asg 4 (.bin .add (.var 4) (.bin .mod (.bi .int [(.var 7)]) (.int 3))), .asg 5 (.bin .add (.bi .max [(.var 5), (.bin .add (.var 4) (.int 1))]) (.bin .mod (.bi .int [(.var 8)]) (.int 3))), .app 3 (.tup [(.bin .mul (.var 4) (.var 2)), (.bin .mul (.var 5) (.var 2))])] [.ite (.cmp .eq (.ix (.var 0) (.int 0)) (.int 7)) [.app 3 (.tup [(.bin .mod (.bi .int [(.var 7)]) (.int 80)), (.bin .add (.bin .add (.bin .mod (.bi .int [(.var 7)]) (.int 80)) (.int 1)) (.bin .mod (.bi .int [(.var 8)]) (.int 30)))])] [.asg 9 (.bin .add (.bin .mod (.bi .int [(.var 7)]) (.int 9)) (.bin .mul (.int 11) (.bi .int [(.and (.cmp .eq (.ix (.var 0) (.int 0)) (.int 4)) (.cmp .eq (.bin .mod (.bi .int [(.var 6)]) (.int 2)) (.int 1)))]))), .asg 10 (.bin .add (.int 1) (.bin .mod (.bi .int [(.var 8)]) (.ix (.tup [(.int 4), (.int 4), (.int 2), (.int 11)]) (.bin .sub (.ix (.var 0) (.int 0)) (.int 3))))), .app 3 (.tup [(.bin .mul (.var 9) (.var 2)), (.bin .mul (.bin .add (.var 9) (.var 10)) (.var 2))])]], .kil [6, 7, 8, 9, 10]],
  .kil [2, 4, 5, 6, 7, 8, 9, 10],
  .ret (.var 3)]⟩
def fn__law_things : Fn := ⟨2, 3, [
  .asg 2 (.lst [(.int 0), (.int 1), (.neg (.int 1)), (.var 0), (.bin .sub (.neg (.var 0)) (.int 1)), (.bin .add (.bin .pow (.int 10) (.int 59)) (.var 0)), (.bl true), (.bl false), .non, (.str ""), (.str "7"), (.tup []), (.lst []), (.tup [(.int 0)]), (.tup [(.int 0), (.int 1)]), (.tup [(.int 1), (.int 0)])]),
  .asg 2 (.bin .add (.var 2) (.lst [(.tup [(.int 0), (.int 2)]), (.tup [(.int 2), (.int 4)]), (.tup [(.int 4), (.int 2)]), (.tup [(.var 0), (.bin .add (.var 1) (.int 1))]), (.tup [(.neg (.var 0)), (.bin .add (.var 1) (.int 1))]), (.tup [(.var 0), (.neg (.var 1))]), (.tup [(.var 0), (.int 0)]), (.tup [(.bl true), (.int 2)])])),
  .asg 2 (.bin .add (.var 2) (.lst [(.tup [(.int 0), (.bl true)]), (.tup [(.bl false), (.int 1)]), (.tup [(.lst [(.int 0)]), (.int 1)]), (.tup [(.int 1), (.int 2), (.int 3)]), (.tup [(.int 3), (.int 2), (.int 1)]), (.tup [(.int 1), (.int 1)]), (.tup [(.tup [(.int 0), (.int 1)])]), (.tup [(.tup [(.int 0), (.int 1)]), (.tup [(.int 0), (.int 1)])])])),
  .asg 2 (.bin .add (.var 2) (.lst [(.tup [(.tup [(.int 0), (.int 2)]), (.tup [(.int 0), (.int 1)])]), (.tup [(.tup [(.int 0), (.int 3)]), (.tup [(.int 1), (.int 2)])]), (.tup [(.tup [(.int 0), (.int 3)]), (.tup [(.int 1), (.int 4)])]), (.lst [(.int 0), (.int 1)]), (.lst [(.tup [(.int 0), (.int 1)])]), (.tup [(.tup [(.int 0), (.int 1)]), (.lst [(.int 1), (.int 2)])])])),
  .asg 2 (.bin .add (.var 2) (.lst [(.tup [(.int 0), (.int 1), (.bl true)]), (.tup [(.int 1), (.bin .pow (.int 10) (.int 50))]), (.tup [(.bin .pow (.int 10) (.int 50)), (.int 1)]), (.tup [(.str "0"), (.str "1")]), (.tup [(.int 0), (.int 1), (.int 2), (.int 5), (.bin .add (.var 0) (.int 6))]), (.tup [(.int 0), (.int 2), (.int 2)])])),
  .ret (.bin .add (.var 2) (.lst [(.tup [(.neg (.int 1)), (.int 0), (.int 1)]), (.tup [(.int 0), (.tup [(.int 1)])]), (.tup [(.tup [(.int 0), (.int 1)]), (.tup [(.int 1)])]), (.tup [.non, (.int 1)]), (.tup [(.tup [(.int 0), (.int 4)]), (.tup [(.int 0), (.int 5)]), (.tup [(.int 1), (.int 5)]), (.tup [(.int 2), (.int 4)])]), (.tup [(.var 1)])]))]⟩
def fn__law_kinds : Fn := ⟨2, 4, [
  .asg 2 (.tup [(.call f__law_int [] [(.var 0)]), (.call f__law_number [] [(.var 0)]), (.call f__law_quotient [] [(.var 0)]), (.call f__law_stretch [] [(.var 0)]), (.call f__law_lot [] [(.var 0)])]),
  .asg 2 (.bin .add (.var 2) (.tup [(.cmp .eq (.ix (.call f__law_checked [] [(.var 0)]) (.int 0)) (.str "ok")), (.call f__law_queue [] [(.var 0)])])),
  .ite (.var 1) [.asg 3 (.tup [(.call f_is_integer [0] [(.var 0)]), (.call f_is_number [0] [(.var 0)]), (.call f_is_quotient [0] [(.var 0)]), (.call f_is_stretch [0] [(.var 0)])]), .ret (.call f__law_same [] [(.bin .add (.var 3) (.tup [(.call f_is_lot [0] [(.var 0)]), (.call f_is_asks [0] [(.var 0)]), (.call f_is_queue [0] [(.var 0)])])), (.var 2)])] [],
  .asg 3 (.tup [(.call f_is_integer [] [(.var 0)]), (.call f_is_number [] [(.var 0)]), (.call f_is_quotient [] [(.var 0)]), (.call f_is_stretch [] [(.var 0)]), (.call f_is_lot [] [(.var 0)]), (.call f_is_asks [] [(.var 0)]), (.call f_is_queue [] [(.var 0)])]),
  .ret (.call f__law_same [] [(.var 3), (.var 2)])]⟩
def fn__law_fraction : Fn := ⟨1, 4, [
  .asg 1 (.bin .mod (.bi .int [(.ix (.var 0) (.int 0))]) (.int 13)),
  .asg 2 (.bin .add (.int 1) (.bin .mod (.bi .int [(.ix (.var 0) (.int 3))]) (.int 12))),
  .ite (.cmp .ge (.ix (.var 0) (.int 6)) (.int 4)) [.asg 1 (.bin .add (.bin .add (.bin .mul (.ix (.var 0) (.int 0)) (.bin .pow (.int 10) (.int 18))) (.bin .mul (.ix (.var 0) (.int 1)) (.bin .pow (.int 10) (.int 9)))) (.ix (.var 0) (.int 2))), .asg 2 (.bin .add (.bin .add (.bin .add (.bin .mul (.ix (.var 0) (.int 3)) (.bin .pow (.int 10) (.int 18))) (.bin .mul (.ix (.var 0) (.int 4)) (.bin .pow (.int 10) (.int 8)))) (.ix (.var 0) (.int 5))) (.int 1))] [],
  .asg 3 (.ix (.tup [(.int 1), (.int 1), (.int 2), (.int 360360)]) (.bin .sub (.ix (.var 0) (.int 6)) (.bin .mul (.int 2) (.bi .int [(.cmp .gt (.ix (.var 0) (.int 6)) (.int 3))])))),
  .ret (.tup [(.bin .mul (.bin .mul (.var 1) (.var 3)) (.bin .sub (.int 1) (.bin .mul (.int 2) (.ix (.var 0) (.int 7))))), (.bin .mul (.bin .mul (.var 2) (.var 3)) (.bin .sub (.int 1) (.bin .mul (.int 2) (.ix (.var 0) (.int 8)))))])]⟩
def fn__law_lowest : Fn := ⟨1, 2, [
  .asg 1 (.bin .mul (.call f__law_divisor [] [(.ix (.var 0) (.int 0)), (.ix (.var 0) (.int 1))]) (.bin .sub (.int 1) (.bin .mul (.int 2) (.bi .int [(.cmp .lt (.ix (.var 0) (.int 1)) (.int 0))])))),
  .ret (.tup [(.bin .fdiv (.ix (.var 0) (.int 0)) (.var 1)), (.bin .fdiv (.ix (.var 0) (.int 1)) (.var 1))])]⟩
def fn__law_stands : Fn := ⟨3, 3, [
  .ret (.and (.call f__law_quotient [] [(.var 0)]) (.cmp .eq (.bin .mul (.ix (.var 0) (.int 0)) (.var 2)) (.bin .mul (.var 1) (.ix (.var 0) (.int 1)))))]⟩
def fn__law_sums : Fn := ⟨2, 5, [
  .asg 2 (.call f__law_lowest [] [(.var 0)]),
  .asg 3 (.call f__law_lowest [] [(.var 1)]),
  .ite (.not (.call f__law_stands [] [(.call f_quotient_of [] [(.ix (.var 0) (.int 0)), (.ix (.var 0) (.int 1))]), (.ix (.var 0) (.int 0)), (.ix (.var 0) (.int 1))])) [.ret (.bl false)] [],
  .ite (.not (.call f__law_stands [] [(.call f_quotient_of [1, 0] [(.ix (.var 1) (.int 1)), (.ix (.var 1) (.int 0))]), (.ix (.var 1) (.int 0)), (.ix (.var 1) (.int 1))])) [.ret (.bl false)] [],
  .asg 4 (.bin .mul (.ix (.var 2) (.int 1)) (.ix (.var 3) (.int 1))),
  .ite (.not (.call f__law_stands [] [(.call f_plus [] [(.var 2), (.var 3)]), (.bin .add (.bin .mul (.ix (.var 2) (.int 0)) (.ix (.var 3) (.int 1))) (.bin .mul (.ix (.var 3) (.int 0)) (.ix (.var 2) (.int 1)))), (.var 4)])) [.ret (.bl false)] [],
  .ite (.or (.not (.call f__law_stands [] [(.call f_times [] [(.var 2), (.var 3)]), (.bin .mul (.ix (.var 2) (.int 0)) (.ix (.var 3) (.int 0))), (.var 4)])) (.not (.call f__law_stands [] [(.call f_times [1, 0] [(.var 3), (.var 2)]), (.bin .mul (.ix (.var 2) (.int 0)) (.ix (.var 3) (.int 0))), (.var 4)]))) [.ret (.bl false)] [],
  .ite (.not (.call f__law_stands [] [(.call f_plus [1, 0] [(.var 3), (.var 2)]), (.bin .add (.bin .mul (.ix (.var 2) (.int 0)) (.ix (.var 3) (.int 1))) (.bin .mul (.ix (.var 3) (.int 0)) (.ix (.var 2) (.int 1)))), (.var 4)])) [.ret (.bl false)] [],
  .ite (.not (.call f__law_stands [] [(.call f_minus [] [(.var 2), (.var 3)]), (.bin .sub (.bin .mul (.ix (.var 2) (.int 0)) (.ix (.var 3) (.int 1))) (.bin .mul (.ix (.var 3) (.int 0)) (.ix (.var 2) (.int 1)))), (.var 4)])) [.ret (.bl false)] [],
  .ite (.not (.call f__law_stands [] [(.call f_minus [1, 0] [(.var 2), (.var 3)]), (.bin .sub (.bin .mul (.ix (.var 3) (.int 0)) (.ix (.var 2) (.int 1))) (.bin .mul (.ix (.var 2) (.int 0)) (.ix (.var 3) (.int 1)))), (.var 4)])) [.ret (.bl false)] [],
  .ite (.or (.not (.call f__law_same [] [(.call f_less [] [(.var 2), (.var 3)]), (.cmp .lt (.bin .mul (.ix (.var 2) (.int 0)) (.ix (.var 3) (.int 1))) (.bin .mul (.ix (.var 3) (.int 0)) (.ix (.var 2) (.int 1))))])) (.isB true false (.call f_less [] [(.var 2), (.var 2)]))) [.ret (.bl false)] [],
  .ret (.call f__law_same [] [(.call f_less [1, 0] [(.var 2), (.var 3)]), (.cmp .lt (.bin .mul (.ix (.var 3) (.int 0)) (.ix (.var 2) (.int 1))) (.bin .mul (.ix (.var 2) (.int 0)) (.ix (.var 3) (.int 1))))])]⟩
def fn__law_refused : Fn := ⟨4, 4, [
  .ret (.call f__law_same [] [(.call f__law_call [] [(.var 0), (.var 1), (.var 2)]), (.tup [(.str "no"), (.var 3), (.neg (.int 1)), (.bl true)])])]⟩
def fn__law_odd_sums : Fn := ⟨2, 5, [
  .asg 2 (.lst [(.tup [(.int 2), (.int 4)]), (.tup [(.int 0), (.int 2)]), (.tup [(.int 1), (.int 0)]), (.tup [(.int 1), (.neg (.int 2))]), (.tup [(.bl true), (.int 1)]), (.tup [(.int 1), (.bl true)]), (.lst [(.int 1), (.int 2)]), .non, (.int 3), (.tup [(.int 1), (.int 2), (.int 3)]), (.str "1 2"), (.tup [(.int 1)]), (.tup []), (.tup [(.int 6), (.int 9)])]),
  .fr (.nm 3) .val [(.var 2)] [.asg 4 (.ix (.tup [(.str "plus"), (.str "minus"), (.str "times"), (.str "less")]) (.bin .mod (.bi .int [(.var 1)]) (.int 4))), .ite (.or (.not (.call f__law_refused [] [(.var 4), (.var 3), (.var 0), (.str "one")])) (.not (.call f__law_refused [] [(.var 4), (.var 0), (.var 3), (.str "other")]))) [.ret (.bl false)] [], .ite (.not (.call f__law_refused [] [(.var 4), (.var 3), (.var 3), (.str "one")])) [.ret (.bl false)] [], .asg 1 (.bin .add (.var 1) (.int 1)), .kil [3, 4]],
  .kil [3, 4],
  .kil [2, 3, 4],
  .fr (.nm 3) .val [(.tup [(.bl true), .non, (.str "1"), (.tup [(.int 1), (.int 2)]), (.lst [(.int 1)])])] [.ite (.or (.not (.call f__law_refused [] [(.str "quotient_of"), (.var 3), (.int 0), (.str "top")])) (.not (.call f__law_refused [] [(.str "quotient_of"), (.int 3), (.var 3), (.str "bottom")]))) [.ret (.bl false)] [], .kil [3]],
  .kil [3],
  .ret (.call f__law_refused [] [(.str "quotient_of"), (.int 3), (.int 0), (.str "bottom")])]⟩
def fn__law_rows : Fn := ⟨1, 10, [
  .asg 1 (.bi .tuple [(.lc (.var 2) (.nm 2) .val [(.var 0)] [(.cmp .ge (.bin .sub (.ix (.var 2) (.int 1)) (.ix (.var 2) (.int 0))) (.int 2))])]),
  .asg 3 (.bi .max [(.bin .add (.lst [(.int 0)]) (.lc (.ix (.var 2) (.int 1)) (.nm 2) .val [(.var 0)] []))]),
  .asg 4 (.bin .mul (.lst [(.bl false)]) (.var 3)),
  .fr (.nm 2) .val [(.var 0)] [.kil [5], .fr (.nm 5) .rng2 [(.ix (.var 2) (.int 0)), (.ix (.var 2) (.int 1))] [.put 4 (.var 5) (.bl true), .kil [5]], .kil [5], .kil [2, 5]],
  .kil [2, 5],
  .asg 6 (.lst [(.tup [(.str "wide_asks"), (.var 1)]), (.tup [(.str "clubs_of"), (.call f__law_clubs [] [(.var 1)])]), (.tup [(.str "longest_end"), (.var 3)])]),
  .asg 6 (.bin .add (.var 6) (.lst [(.tup [(.str "covered"), (.bi .tuple [(.lc (.var 7) (.nm 7) .rng1 [(.var 3)] [(.ix (.var 4) (.var 7))])])]), (.tup [(.str "order_fault"), (.call f__law_fault [] [(.var 0)])])])),
  .kil [1, 2, 3, 4, 5],
  .fr (.nm 8) .val [(.var 6)] [.ite (.not (.call f__law_same [] [(.call f__law_call [] [(.ix (.var 8) (.int 0)), (.var 0), .non]), (.tup [(.str "ok"), (.ix (.var 8) (.int 1))])])) [.ret (.bl false)] []],
  .asg 9 (.tup [(.call f_wide_asks [0] [(.var 0)]), (.call f_clubs_of [0] [(.var 0)]), (.call f_longest_end [0] [(.var 0)]), (.call f_covered [0] [(.var 0)]), (.call f_order_fault [0] [(.var 0)])]),
  .ret (.and (.call f__law_same [] [(.var 9), (.bi .tuple [(.lc (.ix (.var 8) (.int 1)) (.nm 8) .val [(.var 6)] [])])]) (.call f__law_same [] [(.call f_lets_asks [0] [(.var 0)]), (.bi .len [(.var 0)])]))]⟩
def fn__law_spoilt : Fn := ⟨2, 7, [
  .asg 2 (.bin .mod (.bi .int [(.var 1)]) (.bin .add (.bi .len [(.var 0)]) (.int 1))),
  .asg 3 (.lst [(.tup [(.int 2), (.int 2)]), (.tup [(.int 3), (.int 1)]), (.lst [(.int 0), (.int 1)]), (.tup [(.int 0), (.bl true)]), (.tup [(.int 0), (.int 1), (.int 2)]), .non, (.str "0-1"), (.tup [(.neg (.int 1)), (.int 2)]), (.int 5), (.tup [])]),
  .asg 4 (.tup [(.ix (.var 3) (.bin .mod (.bi .int [(.bin .fdiv (.var 1) (.int 61))]) (.int 10)))]),
  .asg 5 (.tup [(.ix (.var 3) (.bin .mod (.bi .int [(.bin .fdiv (.var 1) (.int 613))]) (.int 10)))]),
  .asg 6 (.lst [(.bi .list [(.var 0)]), (.bin .add (.var 0) (.sl (.var 0) .non (.int 1))), (.rev (.var 0)), (.bin .add (.bin .add (.sl (.var 0) .non (.var 2)) (.var 4)) (.sl (.var 0) (.var 2) .non)), (.bin .add (.bin .add (.bin .add (.sl (.var 0) .non (.var 2)) (.var 4)) (.sl (.var 0) (.var 2) .non)) (.var 5))]),
  .asg 6 (.bin .add (.var 6) (.lst [(.bin .add (.bin .add (.sl (.var 0) .non (.var 2)) (.sl (.sl (.var 0) (.var 2) .non) .non (.int 1))) (.sl (.var 0) (.var 2) .non)), .non, (.tup [(.var 0)]), (.bin .add (.var 0) (.tup [(.tup [(.int 0), (.int 1)])])), (.bin .add (.sl (.var 0) (.var 2) .non) (.sl (.var 0) .non (.var 2))), (.bl true)])),
  .ret (.bin .add (.var 6) (.lst [(.bin .add (.sl (.var 0) (.int 1) .non) (.sl (.var 0) .non (.int 1))), (.bin .add (.var 5) (.var 0)), (.str "0-1 1-2"), (.int 7), (.bin .add (.sl (.var 0) .non (.var 2)) (.sl (.var 0) (.bin .add (.var 2) (.int 1)) .non)), (.bin .add (.rev (.var 0)) (.var 4))]))]⟩
def fn_law : Fn := ⟨1, 16, [
  .asg 1 (.call f__law_nums [] [(.var 0), (.int 0), (.bin .add (.lst [(.int 8), (.int 9), (.int 2), (.int 41)]) (.bin .mul (.lst [(.int 1000)]) (.int 120)))]),
  .asg 2 (.call f__law_nums [] [(.var 0), (.int 1), (.lst [(.int 1000000), (.int 1000000), (.bin .pow (.int 10) (.int 15)), (.bin .pow (.int 10) (.int 15))])]),
  .asg 3 (.call f__law_stretches [] [(.var 1)]),
  .ite (.cmp .eq (.bin .mod (.bi .int [(.ix (.var 2) (.int 1))]) (.int 2)) (.int 1)) [.asg 3 (.rev (.var 3))] [],
  .asg 3 (.bin .add (.sl (.var 3) (.bin .mod (.bi .int [(.ix (.var 2) (.int 1))]) (.int 3)) .non) (.sl (.var 3) .non (.bin .mod (.bi .int [(.ix (.var 2) (.int 1))]) (.int 3)))),
  .asg 4 (.call f__law_line [] [(.var 3)]),
  .asg 5 (.bin .mod (.bi .int [(.ix (.var 2) (.int 0))]) (.int 8)),
  .asg 6 (.lst [(.ix (.tup [(.tup [(.int 1), (.int 1)]), (.tup [(.int 2), (.int 1)]), (.lst [(.int 0), (.int 2)]), (.tup [(.bl true), (.int 2)]), .non]) (.bin .mod (.bi .int [(.bin .fdiv (.ix (.var 2) (.int 0)) (.int 8))]) (.int 5)))]),
  .asg 7 (.bin .add (.bin .add (.sl (.var 3) .non (.var 5)) (.var 6)) (.sl (.var 3) (.var 5) (.int 7))),
  .asg 8 (.tup [(.str "no"), (.str "stretches"), (.bi .min [(.var 5), (.bi .len [(.var 3)])]), (.bl true)]),
  .asg 9 (.sl (.var 3) .non (.bin .add (.int 8) (.bin .mul (.int 4) (.bi .int [(.cmp .ge (.bi .len [(.var 3)]) (.int 12))])))),
  .ite (.or (.not (.call f__law_same [] [(.call f__law_made [] [(.var 9)]), (.tup [(.str "ok"), (.call f__law_line [] [(.var 9)])])])) (.not (.call f__law_same [] [(.call f__law_made [] [(.var 7)]), (.var 8)]))) [.ret (.bl false)] [],
  .ite (.or (.not (.call f__law_rows [] [(.var 4)])) (.not (.call f__law_kinds [] [(.var 4), (.bl true)]))) [.ret (.bl false)] [],
  .kil [1, 3, 5, 6, 7, 8, 9],
  .fr (.nm 10) .val [(.call f__law_spoilt [] [(.var 4), (.ix (.var 2) (.int 0))])] [.asg 8 (.call f__law_checked [] [(.var 10)]), .ite (.not (.call f__law_same [] [(.call f__law_call [] [(.str "lets_asks"), (.var 10), .non]), (.var 8)])) [.ret (.bl false)] [], .ite (.or (.not (.call f__law_same [] [(.call f_is_asks [] [(.var 10)]), (.cmp .eq (.ix (.var 8) (.int 0)) (.str "ok"))])) (.not (.call f__law_same [] [(.call f_is_queue [] [(.var 10)]), (.call f__law_queue [] [(.var 10)])]))) [.ret (.bl false)] [], .kil [1, 3, 5, 6, 7, 9, 11], .fr (.nm 11) .val [(.tup [(.str "order_fault"), (.str "wide_asks"), (.str "covered"), (.str "clubs_of"), (.str "longest_end")])] [.ite (.and (.cmp .ne (.ix (.var 8) (.int 0)) (.str "ok")) (.not (.call f__law_refused [] [(.var 11), (.var 10), .non, (.str "asks")]))) [.ret (.bl false)] [], .kil [11]], .kil [8, 10, 11], .kil [8, 10, 11]],
  .kil [8, 10, 11],
  .asg 12 (.call f__law_things [] [(.ix (.var 2) (.int 2)), (.ix (.var 2) (.int 3))]),
  .kil [1, 3, 5, 6, 7, 8, 9, 10, 11],
  .fr (.nm 13) .rng1 [(.bi .len [(.var 12)])] [.ite (.and (.cmp .eq (.bin .mod (.bi .int [(.bin .add (.var 13) (.ix (.var 2) (.int 1)))]) (.int 2)) (.int 0)) (.not (.call f__law_kinds [] [(.ix (.var 12) (.var 13)), (.cmp .eq (.bin .mod (.bi .int [(.bin .fdiv (.var 13) (.int 2))]) (.int 2)) (.int 1))]))) [.ret (.bl false)] [], .kil [13]],
  .kil [12, 13],
  .asg 14 (.call f__law_fraction [] [(.call f__law_nums [] [(.var 0), (.int 2), (.bin .add (.bin .mul (.lst [(.int 100000)]) (.int 6)) (.lst [(.int 6), (.int 2), (.int 2)]))])]),
  .asg 15 (.call f__law_fraction [] [(.call f__law_nums [] [(.var 0), (.int 3), (.bin .add (.bin .mul (.lst [(.int 100000)]) (.int 6)) (.lst [(.int 6), (.int 2), (.int 2)]))])]),
  .ret (.and (.call f__law_sums [] [(.var 14), (.var 15)]) (.and (.call f__law_odd_sums [] [(.call f__law_lowest [] [(.var 14)]), (.ix (.var 2) (.int 0))]) (.call f__law_rows [] [(.var 4)])))]⟩
def Tab : List Fn := [fn_is_integer, fn_is_number, fn__divisor, fn_is_quotient, fn_is_stretch, fn_is_lot, fn_is_asks, fn_is_queue, fn_asks_of, fn_order_fault, fn_wide_asks, fn_covered, fn_clubs_of, fn_longest_end, fn__asks_usable, fn_lets_asks, fn_quotient_of, fn_plus, fn_minus, fn_times, fn_less, fn__both_quotients, fn__lowest, fn__law_nums, fn__law_int, fn__law_number, fn__law_same, fn__law_divisor, fn__law_quotient, fn__law_stretch, fn__law_lot, fn__law_checked, fn__law_fault, fn__law_queue, fn__law_line, fn__law_share, fn__law_clubs, fn__law_call, fn__law_made, fn__law_stretches, fn__law_things, fn__law_kinds, fn__law_fraction, fn__law_lowest, fn__law_stands, fn__law_sums, fn__law_refused, fn__law_odd_sums, fn__law_rows, fn__law_spoilt, fn_law]
def T (f : Nat) : Option Fn := Tab[f]?
end K01

set_option maxHeartbeats 1000000
/-! Plain side, part a: stepping through core terms. -/
namespace Uq
open PySem
section
variable {T : Nat → Option Fn} {sub : Nat → Nat → Bool} {flds : Nat → List Str}
/-- a call of the f-th function -/
theorem wC_of {n f : Nat} {fn : Fn} {vs : List D} {Q : QD} {E : Ex} (hT : T f = some fn) (hl : vs.length = fn.np)
    (h : wSs ⟨wC T sub flds n, sub, flds⟩ fn.body (Uq.start fn vs) ⟨fun _ => Q .none, Q, fun _ => False, fun _ => False, fun c fs _ => E c fs⟩) : wC T sub flds (n + 1) f vs Q E := by
  unfold wC
  rw [hT]
  exact ⟨hl, h⟩
end
/-! what simp may look into, ahead of a step -/
section
variable {X : Cl} {ρ ρ' : Env} {Q : QD} {E : Ex} {k : K}
end
/-! values -/
@[simp] theorem truR_none {Q} : truR .none Q = Q false := id rfl
@[simp] theorem truR_bool {b Q} : truR (.bool b) Q = Q b := id rfl
@[simp] theorem truR_int {i Q} : truR (.int i) Q = Q (i != 0) := id rfl
@[simp] theorem truR_list {ds Q} : truR (.list ds) Q = Q (!ds.isEmpty) := id rfl
@[simp] theorem truR_tuple {ds Q} : truR (.tuple ds) Q = Q (!ds.isEmpty) := id rfl
@[simp] theorem truR_str {x Q} : truR (.str x) Q = (x.length ≤ sizeLine ∧ Q (x.length != 0)) := id rfl
@[simp] theorem binR_addI {i j Q} : binR .add (.int i) (.int j) Q = Q (.int (i + j)) := id rfl
@[simp] theorem binR_addL {i j Q} : binR .add (.list i) (.list j) Q = (i.length + j.length ≤ sizeLine ∧ Q (.list (i ++ j))) := id rfl
@[simp] theorem binR_addT {i j Q} : binR .add (.tuple i) (.tuple j) Q = (i.length + j.length ≤ sizeLine ∧ Q (.tuple (i ++ j))) := id rfl
@[simp] theorem binR_sub {i j Q} : binR .sub (.int i) (.int j) Q = Q (.int (i - j)) := id rfl
@[simp] theorem binR_mul {i j Q} : binR .mul (.int i) (.int j) Q = (MulOk i j ∧ Q (.int (i * j))) := id rfl
@[simp] theorem binR_mulL {a j Q} : binR .mul (.list a) (.int j) Q = ((-(2 ^ 63) ≤ j ∧ j < 2 ^ 63 ∧ a.length * j.toNat ≤ sizeLine) ∧ Q (.list (List.replicate j.toNat a).flatten)) := id rfl
@[simp] theorem binR_fdiv {i j Q} : binR .fdiv (.int i) (.int j) Q = ((j ≠ 0 ∧ j.natAbs.log2 < 9000) ∧ Q (.int (i.fdiv j))) := id rfl
@[simp] theorem binR_mod {i j Q} : binR .mod (.int i) (.int j) Q = (j ≠ 0 ∧ Q (.int (i.fmod j))) := id rfl
@[simp] theorem binR_pow {i j Q} : binR .pow (.int i) (.int j) Q = ((0 ≤ j ∧ j ≤ 1000000 ∧ i.natAbs < 2 ^ 64) ∧ Q (.int (i ^ j.toNat))) := id rfl
@[simp] theorem cmpR_ltI {i j Q} : cmpR .lt (.int i) (.int j) Q = Q (.bool (decide (i < j))) := id rfl
@[simp] theorem cmpR_leI {i j Q} : cmpR .le (.int i) (.int j) Q = Q (.bool (decide (i ≤ j))) := id rfl
@[simp] theorem cmpR_gtI {i j Q} : cmpR .gt (.int i) (.int j) Q = Q (.bool (decide (j < i))) := id rfl
@[simp] theorem cmpR_geI {i j Q} : cmpR .ge (.int i) (.int j) Q = Q (.bool (decide (j ≤ i))) := id rfl
@[simp] theorem cmpR_eqI {i j Q} : cmpR .eq (.int i) (.int j) Q = Q (.bool (decide (i = j))) := id rfl
@[simp] theorem cmpR_neI {i j Q} : cmpR .ne (.int i) (.int j) Q = Q (.bool (!decide (i = j))) := id rfl
@[simp] theorem cmpR_eqS {i j Q} : cmpR .eq (.str i) (.str j) Q = Q (.bool (decide (i = j))) := id rfl
@[simp] theorem cmpR_neS {i j Q} : cmpR .ne (.str i) (.str j) Q = Q (.bool (!decide (i = j))) := id rfl
@[simp] theorem isTy_int {t i} : isTy t (.int i) = decide (t = .int) := by cases t <;> rfl
@[simp] theorem isTy_bool {t i} : isTy t (.bool i) = decide (t = .int ∨ t = .bool) := by cases t <;> rfl
@[simp] theorem isTy_str {t i} : isTy t (.str i) = decide (t = .str) := by cases t <;> rfl
@[simp] theorem isTy_tuple {t i} : isTy t (.tuple i) = decide (t = .tuple) := by cases t <;> rfl
@[simp] theorem isTy_list {t i} : isTy t (.list i) = decide (t = .list) := by cases t <;> rfl
@[simp] theorem isTy_none {t} : isTy t .none = false := by cases t <;> rfl
@[simp] theorem isNon_none : isNon .none = true := id rfl
@[simp] theorem isNon_int {i} : isNon (.int i) = false := id rfl
@[simp] theorem isNon_bool {i} : isNon (.bool i) = false := id rfl
@[simp] theorem isNon_str {i} : isNon (.str i) = false := id rfl
@[simp] theorem isNon_tuple {i} : isNon (.tuple i) = false := id rfl
@[simp] theorem isNon_list {i} : isNon (.list i) = false := id rfl
@[simp] theorem opq_int {i} : opq (.int i) = false := id rfl
@[simp] theorem opq_bool {i} : opq (.bool i) = false := id rfl
@[simp] theorem opq_str {i} : opq (.str i) = false := id rfl
@[simp] theorem opq_tuple {i} : opq (.tuple i) = false := id rfl
@[simp] theorem opq_list {i} : opq (.list i) = false := id rfl
@[simp] theorem opq_none : opq .none = false := id rfl
@[simp] theorem opq_dict {i} : opq (.dict i) = true := id rfl
@[simp] theorem noL_int {i} : noL (.int i) = true := id rfl
@[simp] theorem noL_bool {i} : noL (.bool i) = true := id rfl
@[simp] theorem noL_str {i} : noL (.str i) = true := id rfl
@[simp] theorem noL_none : noL .none = true := id rfl
@[simp] theorem noL_list {i} : noL (.list i) = false := id rfl
@[simp] theorem noL_dict {i} : noL (.dict i) = false := id rfl
@[simp] theorem noL_tuple {i} : noL (.tuple i) = noLs i := id rfl
@[simp] theorem noLs_nil : noLs [] = true := id rfl
@[simp] theorem noLs_cons {d ds} : noLs (d :: ds) = (noL d && noLs ds) := id rfl
@[simp] theorem biR_lenL {ds Q} : biR .len [.list ds] Q = Q (.int ds.length) := id rfl
@[simp] theorem biR_lenT {ds Q} : biR .len [.tuple ds] Q = Q (.int ds.length) := id rfl
@[simp] theorem biR_lenD {ds Q} : biR .len [.dict ds] Q = Q (.int ds.length) := id rfl
@[simp] theorem biR_intI {i Q} : biR .int [.int i] Q = Q (.int i) := id rfl
@[simp] theorem biR_intB {b Q} : biR .int [.bool b] Q = Q (.int (if b then 1 else 0)) := id rfl
@[simp] theorem biR_max {i j Q} : biR .max [.int i, .int j] Q = Q (.int (if j > i then j else i)) := id rfl
@[simp] theorem biR_min {i j Q} : biR .min [.int i, .int j] Q = Q (.int (if j < i then j else i)) := id rfl
@[simp] theorem biR_tupleL {ds Q} : biR .tuple [.list ds] Q = Q (.tuple ds) := id rfl
@[simp] theorem biR_tupleT {ds Q} : biR .tuple [.tuple ds] Q = Q (.tuple ds) := id rfl
@[simp] theorem biR_listL {ds Q} : biR .list [.list ds] Q = Q (.list ds) := id rfl
@[simp] theorem biR_listT {ds Q} : biR .list [.tuple ds] Q = Q (.list ds) := id rfl
@[simp] theorem biR_lrng1 {j Q} : biR .lrng1 [.int j] Q = ((-(2 ^ 62) ≤ j ∧ j < 2 ^ 62 ∧ j.toNat ≤ sizeLine) ∧ Q (.list (upto 0 j.toNat))) := id rfl
@[simp] theorem biR_lrng2 {i j Q} : biR .lrng2 [.int i, .int j] Q = ((-(2 ^ 62) ≤ i ∧ i < 2 ^ 62 ∧ -(2 ^ 62) ≤ j ∧ j < 2 ^ 62 ∧ (j - i).toNat ≤ 2 ^ 24) ∧ Q (.list (upto i (j - i).toNat))) := id rfl
@[simp] theorem biR_abs {i Q} : biR .abs [.int i] Q = Q (.int (if i < 0 then -i else i)) := id rfl
@[simp] theorem biR_bits {i Q} : biR .bits [.int i] Q = Q (.int (Builtin.Int.intBits i)) := id rfl
@[simp] theorem biR_boolB {b Q} : biR .bool [.bool b] Q = Q (.bool b) := id rfl
@[simp] theorem itR_l {ds Q} : itR .val [.list ds] Q = Q ds := id rfl
@[simp] theorem itR_t {ds Q} : itR .val [.tuple ds] Q = Q ds := id rfl
@[simp] theorem itR_d {ds Q} : itR .val [.dict ds] Q = Q (ds.map (·.2)) := id rfl
@[simp] theorem itR_r1 {j Q} : itR .rng1 [.int j] Q = ((-(2 ^ 62) ≤ j ∧ j < 2 ^ 62) ∧ Q (upto 0 j.toNat)) := id rfl
@[simp] theorem itR_r2 {i j Q} : itR .rng2 [.int i, .int j] Q = ((-(2 ^ 62) ≤ i ∧ i < 2 ^ 62 ∧ -(2 ^ 62) ≤ j ∧ j < 2 ^ 62) ∧ Q (upto i (j - i).toNat)) := id rfl
@[simp] theorem itR_el {ds Q} : itR .enum [.list ds] Q = Q (enumF 0 ds) := id rfl
@[simp] theorem itR_et {ds Q} : itR .enum [.tuple ds] Q = Q (enumF 0 ds) := id rfl
def atR (o : Option D) (Q : QD) : Prop := match o with
  | some d => Q d
  | none => False
@[simp] theorem atR_some {d Q} : atR (some d) Q = Q d := id rfl
theorem atR_ex {o : Option D} {Q : QD} : (∃ d, o = some d ∧ Q d) = atR o Q := by
  cases o with
  | none => exact propext ⟨fun ⟨_, h, _⟩ => (nomatch h), fun h => h.elim⟩
  | some d => exact propext ⟨fun ⟨e, h, q⟩ => by cases h; exact q, fun h => ⟨d, rfl, h⟩⟩
@[simp] theorem ixR_t {ds j Q} : ixR (.tuple ds) (.int j) Q = atR (L2.atI ds j) Q := atR_ex
@[simp] theorem ixR_l {ds j Q} : ixR (.list ds) (.int j) Q = atR (L2.atI ds j) Q := atR_ex
@[simp] theorem ixR_d {ds j Q} : ixR (.dict ds) (.int j) Q = atR (L2.atI (ds.map (·.2)) j) Q := atR_ex
@[simp] theorem slR_t {ds lo hi Q} : slR (.tuple ds) lo hi Q = Q (.tuple (cut ds lo hi)) := id rfl
@[simp] theorem slR_l {ds lo hi Q} : slR (.list ds) lo hi Q = Q (.list (cut ds lo hi)) := id rfl
@[simp] theorem revR_l {ds Q} : revR (.list ds) Q = Q (.list ds.reverse) := id rfl
@[simp] theorem revR_t {ds Q} : revR (.tuple ds) Q = Q (.tuple ds.reverse) := id rfl
@[simp] theorem pmL_nil {vs} : pmL [] vs = vs := id rfl
@[simp] theorem at0 {d : D} {ds : List D} : L2.atI (d :: ds) 0 = some d := by simp [L2.atI, L2.ixN]
theorem at00 {d e : D} {ds : List D} : (L2.atI (d :: ds) 0 = some e) = (d = e) := by rw [at0]; simp
@[simp] theorem at1 {d d' : D} {ds : List D} : L2.atI (d :: d' :: ds) 1 = some d' := by
  unfold L2.atI L2.ixN
  rw [if_pos (by decide), if_pos (by simp only [List.length_cons]; omega)]
  rfl
theorem at11 {d d' e : D} {ds : List D} : (L2.atI (d :: d' :: ds) 1 = some e) = (d' = e) := by rw [at1]; simp
/-! environments -/
@[simp] theorem start_def {a b : Nat} {bd : List S} {vs : List D} : Uq.start ⟨a, b, bd⟩ vs = vs.map Sl.va ++ List.replicate (b - a) Sl.no := id rfl
@[simp] theorem frz_va {d} : Sl.frz (.va d) = .va d := id rfl
@[simp] theorem frz_nl {dss} : Sl.frz (.nl dss) = .va (.list (dss.map .list)) := id rfl
@[simp] theorem frz_no : Sl.frz .no = .no := id rfl
@[simp] theorem frz_ol {ds} : Sl.frz (.ol ds) = .va (.list ds) := id rfl
@[simp] theorem kil_nil {ρ} : kil [] ρ = ρ := id rfl
@[simp] theorem kil_cons {i is ρ} : kil (i :: is) ρ = kil is (ρ.set i .no) := id rfl
@[simp] theorem frzL_nil {ρ} : frzL [] ρ = ρ := id rfl
@[simp] theorem frzL_cons {i is ρ} : frzL (i :: is) ρ = frzL is (ρ.modify i Sl.frz) := id rfl
@[simp] theorem setL_nil {ρ} : setL [] [] ρ = some ρ := id rfl
@[simp] theorem setL_cons {i is d ds ρ} : setL (i :: is) (d :: ds) ρ = setL is ds (ρ.set i (.va d)) := id rfl
@[simp] theorem tgR_nm {i d ρ Q} : tgR (.nm i) d ρ Q = Q (ρ.set i (.va d)) := id rfl
@[simp] theorem tgR_tp2 {i j a b ρ Q} : tgR (.tp [i, j]) (.tuple [a, b]) ρ Q = Q ((ρ.set i (.va a)).set j (.va b)) := id rfl
@[simp] theorem shr_va {i d ρ} : shr (.var i) d ρ = if noL d then ρ else frzL [i] ρ := id rfl
@[simp] theorem fresh_var {i} : Uq.fresh (.var i) = false := id rfl
@[simp] theorem fresh_non : Uq.fresh (.non) = false := id rfl
@[simp] theorem fresh_bl {b} : Uq.fresh (.bl b) = false := id rfl
@[simp] theorem fresh_int {k} : Uq.fresh (.int k) = false := id rfl
@[simp] theorem fresh_str {x} : Uq.fresh (.str x) = false := id rfl
@[simp] theorem fresh_neg {a} : Uq.fresh (.neg a) = false := id rfl
@[simp] theorem fresh_not {a} : Uq.fresh (.not a) = false := id rfl
@[simp] theorem fresh_and {a b} : Uq.fresh (.and a b) = false := id rfl
@[simp] theorem fresh_or {a b} : Uq.fresh (.or a b) = false := id rfl
@[simp] theorem fresh_cmp {o a b} : Uq.fresh (.cmp o a b) = false := id rfl
@[simp] theorem fresh_isN {n a} : Uq.fresh (.isN n a) = false := id rfl
@[simp] theorem fresh_isB {n b a} : Uq.fresh (.isB n b a) = false := id rfl
@[simp] theorem fresh_mem {n a b} : Uq.fresh (.mem n a b) = false := id rfl
@[simp] theorem fresh_tup {es} : Uq.fresh (.tup es) = false := id rfl
@[simp] theorem fresh_ix {a b} : Uq.fresh (.ix a b) = false := id rfl
@[simp] theorem fresh_call {f pm es} : Uq.fresh (.call f pm es) = false := id rfl
@[simp] theorem fresh_isi {a ts} : Uq.fresh (.isi a ts) = false := id rfl
@[simp] theorem fresh_lst {es} : Uq.fresh (.lst es) = true := id rfl
@[simp] theorem fresh_lc {e t k es cd} : Uq.fresh (.lc e t k es cd) = true := id rfl
@[simp] theorem fresh_sl {a b c} : Uq.fresh (.sl a b c) = true := id rfl
@[simp] theorem fresh_rev {a} : Uq.fresh (.rev a) = true := id rfl
@[simp] theorem fresh_bi_len {es} : Uq.fresh (.bi .len es) = false := id rfl
@[simp] theorem fresh_bi_abs {es} : Uq.fresh (.bi .abs es) = false := id rfl
@[simp] theorem fresh_bi_int {es} : Uq.fresh (.bi .int es) = false := id rfl
@[simp] theorem fresh_bi_max {es} : Uq.fresh (.bi .max es) = false := id rfl
@[simp] theorem fresh_bi_min {es} : Uq.fresh (.bi .min es) = false := id rfl
@[simp] theorem fresh_bi_sum {es} : Uq.fresh (.bi .sum es) = false := id rfl
@[simp] theorem fresh_bi_tuple {es} : Uq.fresh (.bi .tuple es) = false := id rfl
@[simp] theorem fresh_bi_list {es} : Uq.fresh (.bi .list es) = true := id rfl
@[simp] theorem fresh_bi_sorted {es} : Uq.fresh (.bi .sorted es) = true := id rfl
@[simp] theorem fresh_bi_sset {es} : Uq.fresh (.bi .sset es) = true := id rfl
@[simp] theorem fresh_bi_lrng2 {es} : Uq.fresh (.bi .lrng2 es) = true := id rfl
@[simp] theorem fresh_bi_any {es} : Uq.fresh (.bi .any es) = false := id rfl
@[simp] theorem fresh_bi_all {es} : Uq.fresh (.bi .all es) = false := id rfl
@[simp] theorem fresh_bin_add {a b} : Uq.fresh (.bin .add a b) = true := id rfl
@[simp] theorem fresh_bin_sub {a b} : Uq.fresh (.bin .sub a b) = false := id rfl
@[simp] theorem fresh_bin_mul {a b} : Uq.fresh (.bin .mul a b) = true := id rfl
@[simp] theorem fresh_bin_fdiv {a b} : Uq.fresh (.bin .fdiv a b) = false := id rfl
@[simp] theorem fresh_bin_mod {a b} : Uq.fresh (.bin .mod a b) = false := id rfl
@[simp] theorem fresh_bin_pow {a b} : Uq.fresh (.bin .pow a b) = false := id rfl
theorem asgn_f {e : C} {i : Nat} {d : D} {ρ : Env} (h : Uq.fresh e = false) : asgn e i d ρ = (shr e d ρ).set i (.va d) := by unfold asgn; rw [h]
@[simp] theorem shr_n {e : C} {d : D} {ρ : Env} (h : noL d = true) : shr e d ρ = ρ := by
  unfold shr
  split
  · rename_i ds _; cases h
  · rw [if_pos h]
@[simp] theorem asgn_l {e : C} {i : Nat} {ds : List D} {ρ : Env} (h : Uq.fresh e = true) (hn : noLs ds = true) : asgn e i (.list ds) ρ = ρ.set i (.ol ds) := by
  unfold asgn shr
  rw [h]
  simp only [hn, if_true]
@[simp] theorem asgn_n {e : C} {i : Nat} {d : D} {ρ : Env} (h : noL d = true) : asgn e i d ρ = ρ.set i (.va d) := by
  unfold asgn
  split
  · cases h
  · rw [shr_n h]
/-! the steps -/
section
variable {X : Cl} {ρ : Env} {Q : QD} {E : Ex} {k : K}
def varR (o : Option Sl) (Q : QD) : Prop := match o with
  | some (.va d) => Q d
  | some (.ol ds) => Q (.list ds)
  | some (.nl dss) => Q (.list (dss.map .list))
  | _ => False
@[simp] theorem varR_va {d} : varR (some (.va d)) Q = Q d := id rfl
@[simp] theorem varR_nl {dss} : varR (some (.nl dss)) Q = Q (.list (dss.map .list)) := id rfl
@[simp] theorem varR_ol {d} : varR (some (.ol d)) Q = Q (.list d) := id rfl
def lcG (X : Cl) (e : C) (t : Tg) (cd : List C) (ρ : Env) (ds acc : List D) (Q : QD) : Prop := lcW (fun ρ' q => wTs X cd ρ' q) (fun ρ' q => wE X e ρ' q fun _ _ => False) t ρ ds acc Q
theorem lcG_nil {e t cd acc} : lcG X e t cd ρ [] acc Q = Q (.list acc) := rfl
theorem lcG_cons {e t cd d ds acc} : lcG X e t cd ρ (d :: ds) acc Q = tgR t d ρ fun ρ' => wTs X cd ρ' fun b => if b = true then wE X e ρ' (fun v => acc.length < sizeLine ∧ lcG X e t cd ρ ds (acc ++ [v]) Q) (fun _ _ => False) else lcG X e t cd ρ ds acc Q := rfl
@[simp] theorem wE_var {i} : wE X (.var i) ρ Q E = varR ρ[i]? Q := by
  unfold wE varR
  cases h : ρ[i]? with
  | none => rfl
  | some s => cases s <;> rfl
@[simp] theorem wE_non : wE X .non ρ Q E = Q .none := id rfl
@[simp] theorem wE_bl {b} : wE X (.bl b) ρ Q E = Q (.bool b) := id rfl
@[simp] theorem wE_int {b} : wE X (.int b) ρ Q E = Q (.int b) := id rfl
@[simp] theorem wE_str {b} : wE X (.str b) ρ Q E = Q (.str b) := id rfl
@[simp] theorem wE_bin {o a b} : wE X (.bin o a b) ρ Q E = wE X a ρ (fun x => wE X b ρ (fun y => binR o x y Q) E) E := id rfl
def negR (x : D) (Q : QD) : Prop := match x with
  | .int i => Q (.int (-i))
  | _ => False
@[simp] theorem negR_int {i} : negR (.int i) Q = Q (.int (-i)) := id rfl
@[simp] theorem wE_neg {a} : wE X (.neg a) ρ Q E = wE X a ρ (fun x => negR x Q) E := id rfl
@[simp] theorem wE_not {a} : wE X (.not a) ρ Q E = wE X a ρ (fun x => truR x fun t => Q (.bool (!t))) E := id rfl
@[simp] theorem wE_and {a b} : wE X (.and a b) ρ Q E = wE X a ρ (fun x => truR x fun t => if t = true then wE X b ρ Q E else Q x) E := id rfl
@[simp] theorem wE_or {a b} : wE X (.or a b) ρ Q E = wE X a ρ (fun x => truR x fun t => if t = true then Q x else wE X b ρ Q E) E := id rfl
@[simp] theorem wE_cmp {o a b} : wE X (.cmp o a b) ρ Q E = wE X a ρ (fun x => wE X b ρ (fun y => cmpR o x y Q) E) E := id rfl
@[simp] theorem wE_isN {n a} : wE X (.isN n a) ρ Q E = wE X a ρ (fun x => Q (.bool (isNon x != n))) E := id rfl
@[simp] theorem wE_isB {n b a} : wE X (.isB n b a) ρ Q E = wE X a ρ (fun x => Q (.bool (isBv b x != n))) E := id rfl
@[simp] theorem wE_mem {n a b} : wE X (.mem n a b) ρ Q E = wE X a ρ (fun x => wE X b ρ (fun y => memR x y fun k => Q (.bool (k != n))) E) E := id rfl
@[simp] theorem wE_ite {c a b} : wE X (.ite c a b) ρ Q E = wE X c ρ (fun x => truR x fun t => if t = true then wE X a ρ Q E else wE X b ρ Q E) E := id rfl
@[simp] theorem wE_tup {es} : wE X (.tup es) ρ Q E = wEs X es ρ (fun vs => Q (.tuple vs)) E := id rfl
@[simp] theorem wE_lst {es} : wE X (.lst es) ρ Q E = wEs X es ρ (fun vs => Q (.list vs)) E := id rfl
@[simp] theorem wE_ix {a b} : wE X (.ix a b) ρ Q E = wE X a ρ (fun x => wE X b ρ (fun y => ixR x y Q) E) E := id rfl
def optR (x : D) (k : Option Int → Prop) : Prop := match x with
  | .int i => k (some i)
  | _ => False
@[simp] theorem optR_int {i k} : optR (.int i) k = k (some i) := id rfl
theorem wE_sl {a b c} : wE X (.sl a b c) ρ Q E = wE X a ρ (fun x => wOpt (isNonC b) (fun k => wE X b ρ k E) fun lo => wOpt (isNonC c) (fun k => wE X c ρ k E) fun hi => slR x lo hi Q) E := rfl
@[simp] theorem wE_sl1 {a b} (h : isNonC b = false) : wE X (.sl a b .non) ρ Q E = wE X a ρ (fun x => wE X b ρ (fun y => optR y fun lo => slR x lo none Q) E) E := by
  rw [wE_sl, h]; rfl
@[simp] theorem wE_sl2 {a c} (h : isNonC c = false) : wE X (.sl a .non c) ρ Q E = wE X a ρ (fun x => wE X c ρ (fun y => optR y fun hi => slR x none hi Q) E) E := by
  rw [wE_sl, h]; rfl
@[simp] theorem wE_sl3 {a b c} (h : isNonC b = false) (h2 : isNonC c = false) : wE X (.sl a b c) ρ Q E = wE X a ρ (fun x => wE X b ρ (fun y => optR y fun lo => wE X c ρ (fun z => optR z fun hi => slR x lo hi Q) E) E) E := by
  rw [wE_sl, h, h2]; rfl
@[simp] theorem isNonC_var {i} : isNonC (.var i) = false := id rfl
@[simp] theorem isNonC_int {i} : isNonC (.int i) = false := id rfl
@[simp] theorem isNonC_bin {o a b} : isNonC (.bin o a b) = false := id rfl
@[simp] theorem isNonC_neg {a} : isNonC (.neg a) = false := id rfl
@[simp] theorem isNonC_ix {a b} : isNonC (.ix a b) = false := id rfl
@[simp] theorem wE_rev {a} : wE X (.rev a) ρ Q E = wE X a ρ (fun x => revR x Q) E := id rfl
@[simp] theorem wE_call {f pm es} : wE X (.call f pm es) ρ Q E = wEs X es ρ (fun vs => X.call f (pmL pm vs) Q E) E := id rfl
@[simp] theorem wE_bi {f es} : wE X (.bi f es) ρ Q E = wEs X es ρ (fun vs => biR f vs Q) E := id rfl
@[simp] theorem wE_isi {a ts} : wE X (.isi a ts) ρ Q E = wE X a ρ (fun x => opq x = false ∧ Q (.bool (ts.any fun t => isTy t x))) E := id rfl
@[simp] theorem wE_lc {e t ik es cd} : wE X (.lc e t ik es cd) ρ Q E = wEs X es ρ (fun vs => itR ik vs fun ds => lcG X e t cd (kil (tgI t) (frzIt ik es ρ)) ds [] Q) E := id rfl
@[simp] theorem wEs_nil {Q : List D → Prop} : wEs X [] ρ Q E = Q [] := id rfl
@[simp] theorem wEs_cons {c cs} {Q : List D → Prop} : wEs X (c :: cs) ρ Q E = wE X c ρ (fun v => wEs X cs ρ (fun vs => Q (v :: vs)) E) E := id rfl
@[simp] theorem wTs_nil {Q : Bool → Prop} : wTs X [] ρ Q = Q true := id rfl
@[simp] theorem wTs_cons {c cs} {Q : Bool → Prop} : wTs X (c :: cs) ρ Q = wE X c ρ (fun d => truR d fun t => if t = true then wTs X cs ρ Q else Q false) fun _ _ => False := id rfl
@[simp] theorem wSs_nil : wSs X [] ρ k = k.nx ρ := id rfl
@[simp] theorem wSs_cons {s ss} : wSs X (s :: ss) ρ k = wS X s ρ ⟨fun ρ' => wSs X ss ρ' k, k.rt, k.bk, k.ct, k.ex⟩ := id rfl
@[simp] theorem wS_asg {i e} : wS X (.asg i e) ρ k = wE X e ρ (fun d => k.nx (asgn e i d ρ)) (fun c fs => k.ex c fs ρ) := id rfl
def unpR (is : List Nat) (d : D) (ρ : Env) (Q : Env → Prop) : Prop := match d with
  | .tuple ds => match setL is ds ρ with
    | some ρ' => Q ρ'
    | none => False
  | _ => False
@[simp] theorem unpR_2 {i j a b} {Q : Env → Prop} : unpR [i, j] (.tuple [a, b]) ρ Q = Q ((ρ.set i (.va a)).set j (.va b)) := id rfl
@[simp] theorem wS_unp {is e} : wS X (.unp is e) ρ k = wE X e ρ (fun d => unpR is d (shr e d ρ) k.nx) (fun c fs => k.ex c fs ρ) := by
  show wE X e ρ _ _ = _
  congr 1
def appR (o : Option Sl) (d : D) (Q : Sl → Prop) : Prop := match o with
  | some (.ol ds) => ds.length < sizeLine ∧ Q (.ol (ds ++ [d]))
  | _ => False
@[simp] theorem appR_ol {ds d} {Q : Sl → Prop} : appR (some (.ol ds)) d Q = (ds.length < sizeLine ∧ Q (.ol (ds ++ [d]))) := id rfl
@[simp] theorem wS_app {i e} : wS X (.app i e) ρ k = ((∃ ds, ρ[i]? = some (.ol ds)) ∧ wE X e ρ (fun d => appR (shr e d ρ)[i]? d fun s => k.nx ((shr e d ρ).set i s)) (fun c fs => k.ex c fs ρ)) := by
  show (_ ∧ wE X e ρ _ _) = _
  congr 2
@[simp] theorem wS_exp {e} : wS X (.exp e) ρ k = wE X e ρ (fun _ => k.nx ρ) (fun c fs => k.ex c fs ρ) := id rfl
@[simp] theorem wS_ret {e} : wS X (.ret e) ρ k = wE X e ρ k.rt (fun c fs => k.ex c fs ρ) := id rfl
@[simp] theorem wS_ite {c a b} : wS X (.ite c a b) ρ k = wE X c ρ (fun d => truR d fun t => if t = true then wSs X a ρ k else wSs X b ρ k) (fun c fs => k.ex c fs ρ) := id rfl
@[simp] theorem wS_fr {t ik es body} : wS X (.fr t ik es body) ρ k = wEs X es ρ (fun vs => itR ik vs fun ds => frW (wSs X body) t k ds (frzIt ik es ρ)) (fun c fs => k.ex c fs ρ) := id rfl
@[simp] theorem wS_brk : wS X .brk ρ k = k.bk ρ := id rfl
@[simp] theorem wS_cnt : wS X .cnt ρ k = k.ct ρ := id rfl
@[simp] theorem wS_pas : wS X .pas ρ k = k.nx ρ := id rfl
@[simp] theorem wS_kil {is} : wS X (.kil is) ρ k = k.nx (kil is ρ) := id rfl
@[simp] theorem wS_rai {c es} : wS X (.rai c es) ρ k = wEs X es ρ (fun vs => noLs vs = true ∧ vs.length = (X.flds c).length ∧ k.ex c vs ρ) (fun c fs => k.ex c fs ρ) := id rfl
def augI (o : Bo) (x y : D) (k : D → Prop) : Prop := match x, y with
  | .int a, .int b => binR o x y k
  | _, _ => False
@[simp] theorem augI_int {o a b} {k : D → Prop} : augI o (.int a) (.int b) k = binR o (.int a) (.int b) k := id rfl
def augR (o : Bo) (s : Option Sl) (w : QD → Prop) (k : D → Prop) : Prop := match s with
  | some (.va x) => w fun y => augI o x y k
  | _ => False
@[simp] theorem augR_va {o x} {k : D → Prop} {w : QD → Prop} : augR o (some (.va x)) w k = w fun y => augI o x y k := id rfl
@[simp] theorem wS_aug {i o e} : wS X (.aug i o e) ρ k = augR o ρ[i]? (fun q => wE X e ρ q fun c fs => k.ex c fs ρ) fun z => k.nx (ρ.set i (.va z)) := by
  unfold wS augR
  cases h : ρ[i]? with
  | none => rfl
  | some s => cases s <;> rfl
@[simp] theorem wS_tri {body hc hv hb} : wS X (.tri body hc hv hb) ρ k = wSs X body ρ ⟨k.nx, k.rt, k.bk, k.ct, fun c fs ρ' => wHs X hc hv hb c fs ρ' k⟩ := id rfl
@[simp] theorem wHs_nil {hc hv c fs} : wHs X hc hv [] c fs ρ k = k.ex c fs ρ := id rfl
@[simp] theorem wHs_none {h hc hv b bs c fs} : wHs X (h :: hc) (none :: hv) (b :: bs) c fs ρ k = if X.sub c h = true then wSs X b ρ ⟨k.nx, k.rt, k.bk, k.ct, fun _ _ _ => False⟩ else wHs X hc hv bs c fs ρ k := id rfl
@[simp] theorem wHs_some {h hc v hv b bs c fs} : wHs X (h :: hc) (some v :: hv) (b :: bs) c fs ρ k = if X.sub c h = true then wSs X b (ρ.set v (.xc c fs)) ⟨fun ρ' => k.nx (ρ'.set v .no), k.rt, fun ρ' => k.bk (ρ'.set v .no), fun ρ' => k.ct (ρ'.set v .no), fun _ _ _ => False⟩ else wHs X hc hv bs c fs ρ k := id rfl
def xfR (X : Cl) (o : Option Sl) (f : Str) (Q : QD) : Prop := match o with
  | some (.xc c fs) => ∃ d, ((X.flds c).zip fs).reverse.lookup f = some d ∧ Q d
  | _ => False
@[simp] theorem xfR_xc {c fs f} : xfR X (some (.xc c fs)) f Q = ∃ d, ((X.flds c).zip fs).reverse.lookup f = some d ∧ Q d := id rfl
@[simp] theorem wE_xf {i f} : wE X (.xf i f) ρ Q E = xfR X ρ[i]? f Q := by
  unfold wE xfR
  cases h : ρ[i]? with
  | none => rfl
  | some s => cases s <;> rfl
def xisR (X : Cl) (o : Option Sl) (c : Nat) (Q : QD) : Prop := match o with
  | some (.xc c' _) => Q (.bool (X.sub c' c))
  | _ => False
@[simp] theorem xisR_xc {c c' fs} : xisR X (some (.xc c' fs)) c Q = Q (.bool (X.sub c' c)) := id rfl
@[simp] theorem wE_xis {i c} : wE X (.xis i c) ρ Q E = xisR X ρ[i]? c Q := by
  unfold wE xisR
  cases h : ρ[i]? with
  | none => rfl
  | some s => cases s <;> rfl
@[simp] theorem wS_nnew {i} : wS X (.nnew i) ρ k = k.nx (ρ.set i (.nl [])) := id rfl
def nappR (o : Option Sl) (Q : Sl → Prop) : Prop := match o with
  | some (.nl dss) => dss.length < sizeLine ∧ Q (.nl (dss ++ [[]]))
  | _ => False
@[simp] theorem nappR_nl {dss} {Q : Sl → Prop} : nappR (some (.nl dss)) Q = (dss.length < sizeLine ∧ Q (.nl (dss ++ [[]]))) := id rfl
@[simp] theorem wS_napp {i} : wS X (.napp i) ρ k = nappR ρ[i]? fun s => k.nx (ρ.set i s) := by
  unfold wS nappR
  cases h : ρ[i]? with
  | none => rfl
  | some s => cases s <;> rfl
def naddI (dss : List (List D)) (y : D) (w : QD → Prop) (Q : Sl → Prop) : Prop := match y with
  | .int j => ∃ n ds, L2.ixN dss.length j = some n ∧ dss[n]? = some ds ∧ ds.length < sizeLine ∧ w fun d => noL d = true ∧ Q (.nl (dss.set n (ds ++ [d])))
  | _ => False
@[simp] theorem naddI_int {dss j} {w : QD → Prop} {Q : Sl → Prop} : naddI dss (.int j) w Q = ∃ n ds, L2.ixN dss.length j = some n ∧ dss[n]? = some ds ∧ ds.length < sizeLine ∧ w fun d => noL d = true ∧ Q (.nl (dss.set n (ds ++ [d]))) := id rfl
def naddR (o : Option Sl) (w : (D → Prop) → Prop) (v : QD → Prop) (Q : Sl → Prop) : Prop := match o with
  | some (.nl dss) => w fun y => naddI dss y v Q
  | _ => False
@[simp] theorem naddR_nl {dss} {w : (D → Prop) → Prop} {v : QD → Prop} {Q : Sl → Prop} : naddR (some (.nl dss)) w v Q = w fun y => naddI dss y v Q := id rfl
@[simp] theorem wS_nadd {i a e} : wS X (.nadd i a e) ρ k = naddR ρ[i]? (fun q => wE X a ρ q fun c fs => k.ex c fs ρ) (fun q => wE X e ρ q fun c fs => k.ex c fs ρ) fun s => k.nx (ρ.set i s) := by
  unfold wS naddR
  cases h : ρ[i]? with
  | none => rfl
  | some s => cases s <;> rfl
@[simp] theorem wS_par {i j a b} : wS X (.par i j a b) ρ k = wE X a ρ (fun x => wE X b ρ (fun y => k.nx (((frzL (nms a ++ nms b) ρ).set i (.va x)).set j (.va y))) fun c fs => k.ex c fs ρ) fun c fs => k.ex c fs ρ := id rfl
theorem wS_wh {c body} : wS X (.wh c body) ρ k = ∃ n, whW (fun ρ q e => wT X c ρ q fun c fs => e c fs ρ) (wSs X body) k n ρ := id rfl
def putI (ds : List D) (d y : D) (Q : Sl → Prop) : Prop := match y with
  | .int j => ∃ n, L2.ixN ds.length j = some n ∧ Q (.ol (ds.set n d))
  | _ => False
@[simp] theorem putI_int {ds d j} {Q : Sl → Prop} : putI ds d (.int j) Q = ∃ n, L2.ixN ds.length j = some n ∧ Q (.ol (ds.set n d)) := id rfl
def putR (o : Option Sl) (w : (D → Prop) → Prop) (d : D) (Q : Sl → Prop) : Prop := match o with
  | some (.ol ds) => w fun y => putI ds d y Q
  | _ => False
@[simp] theorem putR_ol {ds d} {w : (D → Prop) → Prop} {Q : Sl → Prop} : putR (some (.ol ds)) w d Q = w fun y => putI ds d y Q := id rfl
@[simp] theorem wS_put {i a e} : wS X (.put i a e) ρ k = wE X e ρ (fun d => putR (shr e d ρ)[i]? (fun q => wE X a (shr e d ρ) q fun c fs => k.ex c fs (shr e d ρ)) d fun s => k.nx ((shr e d ρ).set i s)) (fun c fs => k.ex c fs ρ) := by
  show wE X e ρ _ _ = _
  congr 1
def extR (o : Option Sl) (d : D) (Q : Sl → Prop) : Prop := match d, o with
  | .list es, some (.ol ds) => ds.length + es.length ≤ sizeLine ∧ Q (.ol (ds ++ es))
  | _, _ => False
@[simp] theorem extR_ol {ds es} {Q : Sl → Prop} : extR (some (.ol ds)) (.list es) Q = (ds.length + es.length ≤ sizeLine ∧ Q (.ol (ds ++ es))) := id rfl
@[simp] theorem wS_ext {i e} : wS X (.ext i e) ρ k = ((∃ ds, ρ[i]? = some (.ol ds)) ∧ wE X e ρ (fun d => extR (shr e d ρ)[i]? d fun s => k.nx ((shr e d ρ).set i s)) (fun c fs => k.ex c fs ρ)) := by
  show (_ ∧ wE X e ρ _ _) = _
  congr 2
@[simp] theorem wS_retN : wS X .retN ρ k = k.rt .none := id rfl
@[simp] theorem wE_callv {f es} : wE X (.callv f es) ρ Q E = wEs X es ρ (fun vs => X.call f [.tuple vs] Q E) E := id rfl
/-- a for, by what stays true ahead of each turn -/
theorem frW_ind {body : Env → K → Prop} {t : Tg} (I : List D → Env → Prop) (nil : ∀ ρ, I [] ρ → k.nx ρ) (step : ∀ d ds ρ (R : Env → Prop), I (d :: ds) ρ → (∀ ρ', I ds ρ' → R ρ') → tgR t d ρ fun ρ' => body ρ' ⟨R, k.rt, k.nx, R, k.ex⟩) : ∀ ds ρ, I ds ρ → frW body t k ds ρ
  | [], ρ, h => nil ρ h
  | d :: ds, ρ, h => step d ds ρ _ h fun ρ' h' => frW_ind I nil step ds ρ' h'
end
end Uq

set_option maxHeartbeats 1000000
/-! Plain side, part b: pairs of ints. -/
namespace Uq
open PySem
def pr (a b : Int) : D := .tuple [.int a, .int b]
@[simp] theorem noL_pr {a b} : noL (pr a b) = true := id rfl
@[simp] theorem opq_pr {a b} : opq (pr a b) = false := id rfl
def ltP (a b c d : Int) : Bool := decide (a < c ∨ (a = c ∧ b < d))
theorem dataLt_pr {a b c d : Int} : W.dataLt (pr a b) (pr c d) = ltP a b c d := W.dataLt_ii a b c d
theorem shaped_pr {a b : Int} : SeqAt.shaped (pr a b) = true := by
  simp [SeqAt.shaped, pr, PyData.canLay0, PyData.canLayAll0, PyData.depth, PyData.depthAll]
theorem ltOk_pr {a b c d : Int} : LtOk (pr a b) (pr c d) := ⟨⟨by simp [pr, W.alike, W.alikeAll], fun e => by cases e⟩, shaped_pr, shaped_pr⟩
theorem cmp_le_pr {a b c d : Int} {Q : QD} (h : Q (.bool (!ltP c d a b))) : cmpR .le (pr a b) (pr c d) Q := by
  show LtOk _ _ ∧ Q (.bool (!W.dataLt (pr c d) (pr a b)))
  rw [dataLt_pr]
  exact ⟨ltOk_pr, h⟩
end Uq

set_option maxHeartbeats 1000000
/-! Plain side, part c: slices, places, enumerate. -/
namespace Uq
open PySem
theorem cut_from {xs : List D} {i : Int} (h : 0 ≤ i) : cut xs (some i) none = xs.drop i.toNat := by
  unfold cut
  have e1 : HT.sIx xs.length 0 (some i) = min i.toNat xs.length := by
    show (if i < 0 then _ else _) = _
    rw [if_neg (by omega)]
  have e2 : HT.sIx xs.length xs.length none = xs.length := rfl
  rw [e1, e2]
  by_cases hl : i.toNat ≤ xs.length
  · rw [Nat.min_eq_left hl, List.take_of_length_le (by rw [List.length_drop]; omega)]
  · rw [Nat.min_eq_right (by omega), List.drop_eq_nil_of_le (Nat.le_refl _), List.drop_eq_nil_of_le (by omega), List.take_nil]
theorem cut_to {xs : List D} {i : Int} (h : 0 ≤ i) : cut xs none (some i) = xs.take i.toNat := by
  unfold cut
  have e1 : HT.sIx xs.length xs.length (some i) = min i.toNat xs.length := by
    show (if i < 0 then _ else _) = _
    rw [if_neg (by omega)]
  have e2 : HT.sIx xs.length 0 none = 0 := rfl
  rw [e1, e2, List.drop_zero, Nat.sub_zero]
  by_cases hl : i.toNat ≤ xs.length
  · rw [Nat.min_eq_left hl]
  · rw [Nat.min_eq_right (by omega), List.take_of_length_le (Nat.le_refl _), List.take_of_length_le (by omega)]
theorem cut_neg {xs : List D} {i : Int} (h : i < 0) : cut xs (some i) none = xs.drop (i + xs.length).toNat := by
  unfold cut
  have e1 : HT.sIx xs.length 0 (some i) = (i + xs.length).toNat := by
    show (if i < 0 then _ else _) = _
    rw [if_pos h]
  have e2 : HT.sIx xs.length xs.length none = xs.length := rfl
  rw [e1, e2, List.take_of_length_le (by rw [List.length_drop]; omega)]
theorem atI_nat {xs : List D} {i : Nat} {d : D} (h : xs[i]? = some d) : L2.atI xs (i : Int) = some d := by
  have hl := (List.getElem?_eq_some_iff.mp h).1
  unfold L2.atI L2.ixN
  rw [if_pos (by omega), if_pos (by omega)]
  simpa using h
theorem atI_last {xs : List D} {d : D} : L2.atI (xs ++ [d]) (-1) = some d := by
  unfold L2.atI L2.ixN
  rw [if_neg (by omega), if_pos (by simp only [List.length_append, List.length_singleton]; omega)]
  have e : ((-1 : Int) + ((xs ++ [d]).length : Nat)).toNat = xs.length := by simp only [List.length_append, List.length_singleton]; omega
  simp only [Option.bind_some, e]
  simp
/-- what is left of an enumerate -/
theorem enumF_cons {i : Int} {d : D} {ds : List D} : enumF i (d :: ds) = .tuple [.int i, d] :: enumF (i + 1) ds := rfl
@[simp] theorem enumF_nil {i : Int} : enumF i [] = [] := id rfl
/-- a for over enumerate -/
theorem frW_enum {body : Env → K → Prop} {i j : Nat} {k : K} (I : Nat → List D → Env → Prop) (nil : ∀ n ρ, I n [] ρ → k.nx ρ)
    (step : ∀ n d ds ρ (R : Env → Prop), I n (d :: ds) ρ → (∀ ρ', I (n + 1) ds ρ' → R ρ') → body ((ρ.set i (.va (.int n))).set j (.va d)) ⟨R, k.rt, k.nx, R, k.ex⟩) : ∀ ds n ρ, I n ds ρ → frW body (.tp [i, j]) k (enumF n ds) ρ
  | [], n, ρ, h => nil n ρ h
  | d :: ds, n, ρ, h => by
    rw [enumF_cons]
    exact step n d ds ρ _ h fun ρ' h' => by
      have := frW_enum I nil step ds (n + 1) ρ' h'
      have e : ((n + 1 : Nat) : Int) = (n : Int) + 1 := by omega
      rw [e] at this
      exact this
/-- a for over a range -/
theorem frW_upto {body : Env → K → Prop} {i : Nat} {k : K} {lo : Int} {m : Nat} (I : Nat → Env → Prop) (nil : ∀ ρ, I m ρ → k.nx ρ)
    (step : ∀ n ρ (R : Env → Prop), n < m → I n ρ → (∀ ρ', I (n + 1) ρ' → R ρ') → body (ρ.set i (.va (.int (lo + n)))) ⟨R, k.rt, k.nx, R, k.ex⟩) : ∀ (r n : Nat) ρ, n + r = m → I n ρ → frW body (.nm i) k (upto (lo + n) r) ρ
  | 0, n, ρ, e, h => nil ρ (by have : n = m := by omega
                               rw [← this]; exact h)
  | r + 1, n, ρ, e, h => step n ρ _ (by omega) h fun ρ' h' => by
      have := frW_upto I nil step r (n + 1) ρ' (by omega) h'
      have e2 : lo + ((n + 1 : Nat) : Int) = lo + (n : Int) + 1 := by omega
      rw [e2] at this
      exact this
/-- a comprehension without an if -/
theorem lcG_map {X : Cl} {e : C} {t : Tg} {ρ : Env} {Q : QD} (f : D → D) : ∀ (ds acc : List D), (∀ d ∈ ds, ∀ R : QD, R (f d) → tgR t d ρ fun ρ' => wE X e ρ' R fun _ _ => False) → acc.length + ds.length ≤ sizeLine → Q (.list (acc ++ ds.map f)) → lcG X e t [] ρ ds acc Q
  | [], acc, _, _, hq => by rw [lcG_nil]; simpa using hq
  | d :: ds, acc, h, hl, hq => by
    rw [lcG_cons]
    simp only [List.length_cons] at hl
    exact h d List.mem_cons_self _ ⟨by omega, lcG_map f ds (acc ++ [f d]) (fun x hx => h x (List.mem_cons_of_mem _ hx)) (by rw [List.length_append, List.length_singleton]; omega) (by rw [List.append_assoc]; exact hq)⟩
/-- .. with one -/
theorem lcG_filt {X : Cl} {e : C} {t : Tg} {cd : List C} {ρ : Env} {Q : QD} (f : D → D) (p : D → Bool) : ∀ (ds acc : List D),  (∀ d ∈ ds, ∀ (R : QD) (N : Prop), (p d = true → R (f d)) → (p d = false → N) → tgR t d ρ fun ρ' => wTs X cd ρ' fun b => if b = true then wE X e ρ' R (fun _ _ => False) else N) → acc.length + ds.length ≤ sizeLine → Q (.list (acc ++ (ds.filter p).map f)) → lcG X e t cd ρ ds acc Q
  | [], acc, _, _, hq => by rw [lcG_nil]; simpa using hq
  | d :: ds, acc, h, hl, hq => by
    rw [lcG_cons]
    simp only [List.length_cons] at hl
    refine h d List.mem_cons_self _ _ (fun hp => ⟨by omega, ?_⟩) fun hp => ?_
    · refine lcG_filt f p ds (acc ++ [f d]) (fun x hx => h x (List.mem_cons_of_mem _ hx)) (by rw [List.length_append, List.length_singleton]; omega) ?_
      rw [List.filter_cons_of_pos hp] at hq
      rw [List.append_assoc]
      exact hq
    · refine lcG_filt f p ds acc (fun x hx => h x (List.mem_cons_of_mem _ hx)) (by omega) ?_
      rw [List.filter_cons_of_neg (by rw [hp]; exact Bool.false_ne_true)] at hq
      exact hq
end Uq

set_option maxHeartbeats 1000000
/-! Plain side, part d: statements in parts, the script, small things. -/
namespace Uq
open PySem
theorem wSs_append {X : Cl} (b : List S) : ∀ (a : List S) (ρ : Env) (k : K), wSs X (a ++ b) ρ k = wSs X a ρ ⟨fun ρ' => wSs X b ρ' k, k.rt, k.bk, k.ct, k.ex⟩
  | [], ρ, k => rfl
  | s :: a, ρ, k => by
    show wS X s ρ _ = wS X s ρ _
    congr 2
    funext ρ'
    exact wSs_append b a ρ' k
theorem wSs_cut {X : Cl} (i : Nat) {ss : List S} {ρ : Env} {k : K} (h : wSs X (ss.take i) ρ ⟨fun ρ' => wSs X (ss.drop i) ρ' k, k.rt, k.bk, k.ct, k.ex⟩) : wSs X ss ρ k := by
  have := wSs_append (X := X) (ss.drop i) (ss.take i) ρ k
  rw [List.take_append_drop] at this
  rw [this]
  exact h
@[simp] theorem pmL_0 {a : D} : pmL [0] [a] = [a] := id rfl
@[simp] theorem pmL_210 {a b c : D} : pmL [2, 1, 0] [a, b, c] = [c, b, a] := id rfl
@[simp] theorem pmL_120 {a b c : D} : pmL [1, 2, 0] [a, b, c] = [b, c, a] := id rfl
theorem shr_f {e : C} {d : D} {ρ : Env} (h : Uq.fresh e = false) (hn : noL d = false) : shr e d ρ = frzL (nms e) ρ := by
  unfold shr
  rw [h]
  simp [hn]
theorem asgn_ff {e : C} {i : Nat} {d : D} {ρ : Env} (h : Uq.fresh e = false) (hn : noL d = false) : asgn e i d ρ = (frzL (nms e) ρ).set i (.va d) := by
  rw [asgn_f h, shr_f h hn]
@[simp] theorem shr_l {e : C} {ds : List D} {ρ : Env} (h : Uq.fresh e = true) (hn : noLs ds = true) : shr e (.list ds) ρ = ρ := by
  unfold shr
  rw [h]
  simp only [hn, if_true]
theorem shr_lF {e : C} {ds : List D} {ρ : Env} (hn : noLs ds = false) : shr e (.list ds) ρ = frzL (nms e) ρ := by
  unfold shr
  cases Uq.fresh e <;> simp [hn]
theorem asgn_lF {e : C} {i : Nat} {ds : List D} {ρ : Env} (h : Uq.fresh e = true) (hn : noLs ds = false) : asgn e i (.list ds) ρ = (frzL (nms e) ρ).set i (.ol ds) := by
  unfold asgn
  rw [h, shr_lF hn]
theorem shr_c {e : C} {ds : List D} {ρ : Env} : shr e (.tuple ds) ρ = if noLs ds = true then ρ else frzL (nms e) ρ := by
  unfold shr
  cases Uq.fresh e <;> rfl
@[simp] theorem frzIt_r1 {es : List C} {ρ : Env} : frzIt .rng1 es ρ = ρ := id rfl
@[simp] theorem frzIt_r2 {es : List C} {ρ : Env} : frzIt .rng2 es ρ = ρ := id rfl
@[simp] theorem isBv_b {b c : Bool} : isBv b (.bool c) = (c == b) := id rfl
@[simp] theorem lk_map {ns : List Int} : (ns.map fun n => ((.none : D), PyData.int n)).map (·.2) = ns.map PyData.int := by
  rw [List.map_map]; rfl
@[simp] theorem opq_lk {ns : List Int} : opq (lk ns) = true := id rfl
@[simp] theorem ixR_lk {ns : List Int} {j : Int} {Q : QD} : ixR (lk ns) (.int j) Q = atR (L2.atI (ns.map PyData.int) j) Q := by
  unfold lk; rw [ixR_d, lk_map]
@[simp] theorem lenR_lk {ns : List Int} {Q : QD} : biR .len [lk ns] Q = Q (.int ns.length) := by
  unfold lk; rw [biR_lenD, List.length_map]
@[simp] theorem itR_lk {ns : List Int} {Q : List D → Prop} : itR .val [lk ns] Q = Q (ns.map PyData.int) := by
  unfold lk; rw [itR_d, lk_map]
theorem lk_def {ns : List Int} : lk ns = .dict (ns.map fun n => (.none, .int n)) := rfl
theorem fmod_in {a b : Int} (h : 0 < b) : 0 ≤ a.fmod b ∧ a.fmod b < b := ⟨Int.fmod_nonneg_of_pos a h, Int.fmod_lt_of_pos a h⟩
theorem mul_r {i j : Int} (h0 : -(2 ^ 64) < j) (h1 : j < 2 ^ 64) : MulOk i j := .inr (.inl ⟨h0, h1⟩)
theorem mul_l {i j : Int} (h0 : -(2 ^ 64) < i) (h1 : i < 2 ^ 64) : MulOk i j := .inl ⟨h0, h1⟩
theorem log_small {b : Int} (h0 : 0 < b) (h1 : b < 2147483648) : b.natAbs.log2 < 9000 := by
  have : b.natAbs < 2 ^ 31 := by omega
  have := (Nat.log2_lt (by omega)).mpr this
  omega
theorem log_n {b : Nat} (h0 : 0 < b) (h1 : b < 2147483648) : b.log2 < 9000 := by
  have : b < 2 ^ 31 := by omega
  have := (Nat.log2_lt (by omega)).mpr this
  omega
@[simp] theorem lg3 : (Nat.log2 3 < 9000) = True := by simp; exact log_n (by decide) (by decide)
@[simp] theorem lg4 : (Nat.log2 4 < 9000) = True := by simp; exact log_n (by decide) (by decide)
@[simp] theorem lg5 : (Nat.log2 5 < 9000) = True := by simp; exact log_n (by decide) (by decide)
@[simp] theorem lg6 : (Nat.log2 6 < 9000) = True := by simp; exact log_n (by decide) (by decide)
@[simp] theorem lg7 : (Nat.log2 7 < 9000) = True := by simp; exact log_n (by decide) (by decide)
@[simp] theorem lg9 : (Nat.log2 9 < 9000) = True := by simp; exact log_n (by decide) (by decide)
@[simp] theorem lg11 : (Nat.log2 11 < 9000) = True := by simp; exact log_n (by decide) (by decide)
@[simp] theorem lg12 : (Nat.log2 12 < 9000) = True := by simp; exact log_n (by decide) (by decide)
@[simp] theorem lg24 : (Nat.log2 24 < 9000) = True := by simp; exact log_n (by decide) (by decide)
@[simp] theorem lg50 : (Nat.log2 50 < 9000) = True := by simp; exact log_n (by decide) (by decide)
@[simp] theorem lg60 : (Nat.log2 60 < 9000) = True := by simp; exact log_n (by decide) (by decide)
@[simp] theorem lg61 : (Nat.log2 61 < 9000) = True := by simp; exact log_n (by decide) (by decide)
@[simp] theorem lg113 : (Nat.log2 113 < 9000) = True := by simp; exact log_n (by decide) (by decide)
@[simp] theorem lg500 : (Nat.log2 500 < 9000) = True := by simp; exact log_n (by decide) (by decide)
@[simp] theorem lg1009 : (Nat.log2 1009 < 9000) = True := by simp; exact log_n (by decide) (by decide)
theorem le_size {n : Nat} (h : n ≤ 1000000) : n ≤ sizeLine := Nat.le_trans h (by decide)
theorem lt_size {n : Nat} (h : n < 1000000) : n < sizeLine := Nat.lt_of_lt_of_le h (by decide)
/-- a list of draws: as many as the bounds, each below its own -/
inductive Dr : List Int → List Int → Prop
  | nil : Dr [] []
  | cons {x b xs bs} : 0 ≤ x → x < b → Dr xs bs → Dr (x :: xs) (b :: bs)
theorem Dr.snoc {x b : Int} : ∀ {xs bs : List Int}, Dr xs bs → 0 ≤ x → x < b → Dr (xs ++ [x]) (bs ++ [b])
  | _, _, .nil, h0, h1 => .cons h0 h1 .nil
  | _, _, .cons a c r, h0, h1 => .cons a c (r.snoc h0 h1)
theorem Dr.len : ∀ {xs bs : List Int}, Dr xs bs → xs.length = bs.length
  | _, _, .nil => rfl
  | _, _, .cons _ _ r => by simp [r.len]
theorem Dr.at : ∀ {xs bs : List Int} {i : Nat} {b : Int}, Dr xs bs → bs[i]? = some b → ∃ x, xs[i]? = some x ∧ 0 ≤ x ∧ x < b
  | _, _, 0, _, .cons h0 h1 _, e => by simp at e; subst e; exact ⟨_, rfl, h0, h1⟩
  | _, _, i + 1, _, .cons _ _ r, e => by simp at e ⊢; exact r.at e
theorem Dr.ix {xs bs : List Int} {i : Nat} {b : Int} (h : Dr xs bs) (e : bs[i]? = some b) : ∃ x, L2.atI (xs.map PyData.int) (i : Int) = some (.int x) ∧ 0 ≤ x ∧ x < b := by
  obtain ⟨x, hx, h0, h1⟩ := h.at e
  exact ⟨x, atI_nat (by simp [hx]), h0, h1⟩
theorem rep_at {α : Type} (pre : List α) {n i : Nat} {b : α} (h : i < n) : (pre ++ List.replicate n b)[pre.length + i]? = some b := by
  rw [List.getElem?_append_right (by omega), Nat.add_sub_cancel_left, List.getElem?_replicate, if_pos h]
end Uq

set_option maxHeartbeats 1000000
namespace K01.P
open PySem Uq
abbrev W (n f : Nat) (vs : List D) (Q : QD) (E : Ex) : Prop := wC T sub flds n f vs Q E
def isInt : D → Bool
  | .int _ => true
  | _ => false
def isNum : D → Bool
  | .int i => decide (0 ≤ i)
  | _ => false
theorem is_integer {n : Nat} {d : D} {Q : QD} {E : Ex} (ho : opq d = false) (h : Q (.bool (isInt d))) : W (n + 1) f_is_integer [d] Q E := by
  refine wC_of (fn := fn_is_integer) rfl rfl ?_
  cases d <;> simp_all [fn_is_integer, wSs, wS, wE, wEs, isInt]
theorem is_number {n : Nat} {d : D} {Q : QD} {E : Ex} (ho : opq d = false) (h : Q (.bool (isNum d))) : W (n + 2) f_is_number [d] Q E := by
  refine wC_of (fn := fn_is_number) rfl rfl ?_
  refine is_integer ho ?_
  cases d <;> simp_all [isInt, isNum, fn_is_number]
def isStretch : D → Bool
  | .tuple [.int a, .int b] => decide (0 ≤ a) && (decide (0 ≤ b) && decide (a < b))
  | _ => false
theorem is_stretch {n : Nat} {d : D} {Q : QD} {E : Ex} (ho : opq d = false) (hi : ∀ ds, d = .tuple ds → ∀ x ∈ ds, opq x = false) (h : Q (.bool (isStretch d))) : W (n + 3) f_is_stretch [d] Q E := by
  refine wC_of (fn := fn_is_stretch) rfl rfl ?_
  cases d with
  | tuple ds =>
    match ds, hi _ rfl, h with
    | [], hi, h => simp [fn_is_stretch]; exact h
    | [a], hi, h => simp [fn_is_stretch]; cases a <;> exact h
    | a :: b :: c :: r, hi, h =>
      have h2 : ¬ ((r.length : Int) + 1 + 1 + 1 = 2) := by omega
      simp [fn_is_stretch, h2]
      cases a <;> first | exact h | (cases b <;> exact h)
    | [a, b], hi, h =>
      have ha := hi a (by simp)
      have hb := hi b (by simp)
      simp [fn_is_stretch]
      refine is_number ha ?_
      cases a with
      | int i =>
        by_cases h0 : 0 ≤ i
        · simp [isNum, h0]
          refine is_number hb ?_
          cases b with
          | int j => by_cases h1 : 0 ≤ j <;> simpa [isStretch, isNum, h0, h1] using h
          | _ => simpa [isStretch, isNum, h0] using h
        · simp [isNum, h0]
          cases b <;> simpa [isStretch, h0] using h
      | _ => exact h
  | _ => simp_all [fn_is_stretch, isStretch]
/-- a stretch as its ends -/
def str? : D → Option (Int × Int)
  | .tuple [.int a, .int b] => if 0 ≤ a ∧ 0 ≤ b ∧ a < b then some (a, b) else none
  | _ => none
theorem str_is {d : D} : isStretch d = (str? d).isSome := by
  unfold isStretch str?
  split
  · rename_i a b
    by_cases h : 0 ≤ a ∧ 0 ≤ b ∧ a < b
    · simp [h]
    · rw [if_neg h]
      simp only [Option.isSome_none, Bool.and_eq_false_imp, decide_eq_true_eq, decide_eq_false_iff_not]
      exact fun h0 h1 h2 => h ⟨h0, h1, h2⟩
  · simp_all
theorem str_some {d : D} {p : Int × Int} (h : str? d = some p) : d = pr p.1 p.2 ∧ 0 ≤ p.1 ∧ 0 ≤ p.2 ∧ p.1 < p.2 := by
  unfold str? at h
  split at h
  · split at h
    · rename_i hh
      cases h
      exact ⟨rfl, hh⟩
    · cases h
  · cases h
def goAsks (p : Int × Int) : List D → Bool
  | [] => true
  | d :: ds => match str? d with
    | some q => ltP p.1 p.2 q.1 q.2 && goAsks q ds
    | none => false
def isAsks : D → Bool
  | .tuple ds => goAsks (-1, -1) ds
  | _ => false
/-- nothing of the script's own kind within, two deep -/
def ok1 : D → Prop
  | .tuple ds => ∀ x ∈ ds, opq x = false
  | d => opq d = false
theorem ok1_o {d : D} (h : ok1 d) : opq d = false := by cases d <;> first | rfl | exact h
theorem ok1_t {d : D} (h : ok1 d) : ∀ ds, d = .tuple ds → ∀ x ∈ ds, opq x = false := fun ds e => by subst e; exact h
def ok2 : D → Prop
  | .tuple ds => ∀ x ∈ ds, ok1 x
  | d => opq d = false
theorem is_asks {n : Nat} {d : D} {Q : QD} {E : Ex} (ho : ok2 d) (h : Q (.bool (isAsks d))) : W (n + 4) f_is_asks [d] Q E := by
  refine wC_of (fn := fn_is_asks) rfl rfl ?_
  cases d with
  | tuple ds =>
    simp [fn_is_asks, asgn_n]
    refine frW_ind (I := fun es ρ => (∀ x ∈ es, ok1 x) ∧ ∃ p s2, ρ = [.va (.tuple ds), .va (pr p.1 p.2), s2] ∧ goAsks (-1, -1) ds = goAsks p es) ?_ ?_ _ _ ⟨ho, (-1, -1), .no, rfl, rfl⟩
    · rintro ρ ⟨_, p, s2, rfl, e⟩
      simp
      simpa [isAsks, e, goAsks] using h
    · rintro d es ρ R ⟨hok, p, s2, rfl, e⟩ hR
      have hd := hok d List.mem_cons_self
      simp
      refine is_stretch (ok1_o hd) (ok1_t hd) ?_
      rw [str_is]
      cases q : str? d with
      | none =>
        simp only [goAsks, q] at e
        simpa [isAsks, e] using h
      | some q' =>
        obtain ⟨rfl, h1, h2, h3⟩ := str_some q
        simp only [goAsks, q] at e
        simp
        refine cmp_le_pr ?_
        cases hl : ltP p.1 p.2 q'.1 q'.2 with
        | false =>
          rw [hl] at e
          simpa [isAsks, e] using h
        | true =>
          rw [hl] at e
          simp [asgn_n]
          exact hR _ ⟨fun x hx => hok x (List.mem_cons_of_mem _ hx), q', _, rfl, by simpa using e⟩
  | _ => simp_all [fn_is_asks, isAsks, ok2]
abbrev Pr2 := Int × Int
def prD (p : Pr2) : D := pr p.1 p.2
def rows? : List D → Option (List Pr2)
  | [] => some []
  | d :: ds => match str? d with
    | some p => (rows? ds).map (p :: ·)
    | none => none
def incr (p : Pr2) : List Pr2 → Bool
  | [] => true
  | q :: r => ltP p.1 p.2 q.1 q.2 && incr q r
def asks? : D → Option (List Pr2)
  | .tuple ds => match rows? ds with
    | some ps => if incr (-1, -1) ps = true then some ps else none
    | none => none
  | _ => none
def Good (p : Pr2) : Prop := 0 ≤ p.1 ∧ 0 ≤ p.2 ∧ p.1 < p.2
theorem rows_some : ∀ {ds : List D} {ps : List Pr2}, rows? ds = some ps → ds = ps.map prD ∧ ∀ p ∈ ps, Good p
  | [], ps, h => by cases h; exact ⟨rfl, fun _ h => nomatch h⟩
  | d :: ds, ps, h => by
    unfold rows? at h
    split at h
    · rename_i p e
      cases q : rows? ds with
      | none => rw [q] at h; cases h
      | some r =>
        rw [q] at h
        have h : p :: r = ps := Option.some.inj h
        subst h
        obtain ⟨rfl, g⟩ := rows_some q
        obtain ⟨rfl, g1⟩ := str_some e
        refine ⟨rfl, fun x hx => ?_⟩
        rcases List.mem_cons.mp hx with rfl | hx
        · exact g1
        · exact g x hx
    · cases h
theorem goAsks_rows : ∀ (ds : List D) (p : Pr2), goAsks p ds = match rows? ds with
    | some ps => incr p ps
    | none => false
  | [], p => rfl
  | d :: ds, p => by
    unfold goAsks rows?
    cases e : str? d with
    | none => rfl
    | some q =>
      simp only
      rw [goAsks_rows ds q]
      cases rows? ds with
      | none => simp
      | some r => rfl
theorem isAsks_eq (d : D) : isAsks d = (asks? d).isSome := by
  cases d <;> try rfl
  rename_i ds
  unfold isAsks asks?
  simp only [goAsks_rows]
  cases rows? ds with
  | none => rfl
  | some ps => by_cases h : incr (-1, -1) ps = true <;> simp [h]
theorem asks_some {d : D} {ps : List Pr2} (h : asks? d = some ps) : d = .tuple (ps.map prD) ∧ (∀ p ∈ ps, Good p) ∧ incr (-1, -1) ps = true := by
  unfold asks? at h
  split at h
  · split at h
    · split at h
      · rename_i e hi
        cases h
        obtain ⟨rfl, g⟩ := rows_some e
        exact ⟨rfl, g, hi⟩
      · cases h
    · cases h
  · cases h
def goEnds (e : Int) : List Pr2 → Bool
  | [] => true
  | p :: r => !decide (p.2 < e) && goEnds p.2 r
def isQueue (d : D) : Bool := match asks? d with
  | some ps => goEnds 0 ps
  | none => false
theorem is_queue {n : Nat} {d : D} {Q : QD} {E : Ex} (ho : ok2 d) (h : Q (.bool (isQueue d))) : W (n + 5) f_is_queue [d] Q E := by
  refine wC_of (fn := fn_is_queue) rfl rfl ?_
  simp [fn_is_queue]
  refine is_asks ho ?_
  rw [isAsks_eq]
  unfold isQueue at h
  cases e : asks? d with
  | none => rw [e] at h; simpa using h
  | some ps =>
    rw [e] at h
    obtain ⟨rfl, hg, hi⟩ := asks_some e
    simp [asgn_n]
    refine frW_ind (I := fun es ρ => ∃ ps' en s2, es = ps'.map prD ∧ ρ = [.va (.tuple (ps.map prD)), .va (.int en), s2] ∧ goEnds 0 ps = goEnds en ps') ?_ ?_ _ _ ⟨ps, 0, .no, rfl, rfl, rfl⟩
    · rintro ρ ⟨ps', en, s2, he, rfl, hq⟩
      have : ps' = [] := by cases ps' <;> first | rfl | cases he
      subst this
      simpa [goEnds, hq] using h
    · rintro d es ρ R ⟨ps', en, s2, he, rfl, hq⟩ hR
      cases ps' with
      | nil => cases he
      | cons p ps' =>
        cases he
        simp only [goEnds] at hq
        simp [prD, pr]
        by_cases hlt : p.2 < en
        · simp [hlt] at hq ⊢
          simpa [hq] using h
        · simp [hlt, asgn_n] at hq ⊢
          exact hR _ ⟨ps', p.2, _, rfl, rfl, hq⟩
/-- data that may be compared -/
abbrev sh (d : D) : Prop := SeqAt.shaped d = true
theorem sh_opq {d : D} (h : sh d) : opq d = false := by
  cases d <;> first | rfl | (have := SeqAt.canLay_of_shaped h; simp [PyData.canLay0] at this)
theorem depth_mem : ∀ {ds : List D} {d : D}, d ∈ ds → PyData.depth d ≤ PyData.depthAll ds
  | [], _, h => nomatch h
  | x :: xs, d, h => by
    simp only [PyData.depthAll]
    rcases List.mem_cons.mp h with rfl | h
    · omega
    · have := depth_mem h
      omega
theorem lay_mem : ∀ {ds : List D} {d : D}, d ∈ ds → PyData.canLayAll0 ds = true → d.canLay0 = true
  | [], _, h, _ => nomatch h
  | x :: xs, d, h, c => by
    simp only [PyData.canLayAll0, Bool.and_eq_true] at c
    rcases List.mem_cons.mp h with rfl | h
    · exact c.1
    · exact lay_mem h c.2
theorem sh_mem {ds : List D} {d : D} (h : sh (.tuple ds)) (hm : d ∈ ds) : sh d := by
  have h1 := SeqAt.canLay_of_shaped h
  have h2 := SeqAt.depth_of_shaped h
  simp only [PyData.canLay0] at h1
  simp only [PyData.depth] at h2
  have h3 := depth_mem hm
  unfold sh SeqAt.shaped
  rw [lay_mem hm h1, decide_eq_true (by omega)]
  rfl
theorem sh_ok1 {d : D} (h : sh d) : ok1 d := by
  cases d <;> first | exact sh_opq h | exact fun x hx => sh_opq (sh_mem h hx)
theorem sh_ok2 {d : D} (h : sh d) : ok2 d := by
  cases d <;> first | exact sh_opq h | exact fun x hx => sh_ok1 (sh_mem h hx)
theorem sh_word (s : Str) (h : PyData.canLay0 (.str s) = true) : sh (.str s) := by
  unfold sh SeqAt.shaped
  rw [h]
  simp [PyData.depth]
abbrev lt2 (p q : Pr2) : Prop := p.1 < q.1 ∨ (p.1 = q.1 ∧ p.2 < q.2)
def ins (p : Pr2) : List Pr2 → List Pr2
  | [] => [p]
  | q :: r => if p = q then q :: r else if lt2 p q then p :: q :: r else q :: ins p r
def line : List Pr2 → List Pr2
  | [] => []
  | p :: r => ins p (line r)
abbrev Up (l : List Pr2) : Prop := l.Pairwise lt2
theorem mem_ins {p x : Pr2} : ∀ {l : List Pr2}, x ∈ ins p l ↔ x = p ∨ x ∈ l
  | [] => by simp [ins]
  | q :: r => by
    unfold ins
    split
    · rename_i e
      subst e
      simp
    · split
      · simp
      · simp only [List.mem_cons, mem_ins (l := r)]
        constructor
        · rintro (h | h | h)
          · exact .inr (.inl h)
          · exact .inl h
          · exact .inr (.inr h)
        · rintro (h | h | h)
          · exact .inr (.inl h)
          · exact .inl h
          · exact .inr (.inr h)
theorem mem_line {x : Pr2} : ∀ {l : List Pr2}, x ∈ line l ↔ x ∈ l
  | [] => by simp [line]
  | p :: r => by
    show x ∈ ins p (line r) ↔ _
    rw [mem_ins, mem_line (l := r), List.mem_cons]
theorem lt2_tri {p q : Pr2} (h1 : p ≠ q) (h2 : ¬ lt2 p q) : lt2 q p := by
  unfold lt2 at *
  have h3 : ¬ (p.1 = q.1 ∧ p.2 = q.2) := fun z => h1 (Prod.ext z.1 z.2)
  omega
theorem lt2_trans {p q r : Pr2} (h1 : lt2 p q) (h2 : lt2 q r) : lt2 p r := by unfold lt2 at *; omega
theorem lt2_irr {p : Pr2} : ¬ lt2 p p := by unfold lt2; omega
theorem up_ins {p : Pr2} : ∀ {l : List Pr2}, Up l → Up (ins p l)
  | [], _ => by simp [ins, Up]
  | q :: r, h => by
    unfold ins
    have h' := List.pairwise_cons.mp h
    split
    · exact h
    · rename_i ne
      split
      · rename_i hlt
        refine List.pairwise_cons.mpr ⟨fun x hx => ?_, h⟩
        rcases List.mem_cons.mp hx with rfl | hx
        · exact hlt
        · exact lt2_trans hlt (h'.1 x hx)
      · rename_i hn
        refine List.pairwise_cons.mpr ⟨fun x hx => ?_, up_ins h'.2⟩
        rcases mem_ins.mp hx with rfl | hx
        · exact lt2_tri ne hn
        · exact h'.1 x hx
theorem up_line : ∀ l : List Pr2, Up (line l)
  | [] => List.Pairwise.nil
  | p :: r => up_ins (up_line r)
/-- one line has these members -/
theorem up_uniq : ∀ {a b : List Pr2}, Up a → Up b → (∀ x, x ∈ a ↔ x ∈ b) → a = b
  | [], [], _, _, _ => rfl
  | [], q :: b, _, _, h => absurd ((h q).mpr List.mem_cons_self) (by simp)
  | p :: a, [], _, _, h => absurd ((h p).mp List.mem_cons_self) (by simp)
  | p :: a, q :: b, ha, hb, h => by
    have ha' := List.pairwise_cons.mp ha
    have hb' := List.pairwise_cons.mp hb
    have epq : p = q := by
      rcases List.mem_cons.mp ((h p).mp List.mem_cons_self) with e | hp
      · exact e
      · rcases List.mem_cons.mp ((h q).mpr List.mem_cons_self) with e | hq
        · exact e.symm
        · exact absurd (lt2_trans (ha'.1 q hq) (hb'.1 p hp)) lt2_irr
    subst epq
    rw [up_uniq ha'.2 hb'.2 fun x => ⟨fun hx => ?_, fun hx => ?_⟩]
    · rcases List.mem_cons.mp ((h x).mp (List.mem_cons_of_mem _ hx)) with e | hx'
      · exact absurd (ha'.1 x hx) (by rw [e]; exact lt2_irr)
      · exact hx'
    · rcases List.mem_cons.mp ((h x).mpr (List.mem_cons_of_mem _ hx)) with e | hx'
      · exact absurd (hb'.1 x hx) (by rw [e]; exact lt2_irr)
      · exact hx'
def rowP (p : Pr2) : List Int := [p.1, p.2]
theorem rowD_P (p : Pr2) : rowD (rowP p) = prD p := rfl
theorem bound : ∀ ps : List Pr2, ∃ B : Int, 0 < B ∧ ∀ p ∈ ps, p.1 < B ∧ p.2 < B
  | [] => ⟨1, by decide, fun _ h => nomatch h⟩
  | p :: ps => by
    obtain ⟨B, h0, hB⟩ := bound ps
    refine ⟨max B (max (p.1 + 1) (p.2 + 1)), by omega, fun q hq => ?_⟩
    rcases List.mem_cons.mp hq with rfl | hq
    · omega
    · have := hB q hq
      omega
theorem code_P (B : Int) (p : Pr2) : TS.code B (rowP p) = p.1 * B + p.2 := by
  have e : B ^ 1 = B := by rw [Int.pow_succ, Int.pow_zero, Int.one_mul]
  simp [rowP, TS.code, e]
theorem code_lt {B : Int} {p q : Pr2} (h0 : 0 ≤ p.2 ∧ p.2 < B) (h1 : 0 ≤ q.2 ∧ q.2 < B) (hc : TS.code B (rowP p) ≤ TS.code B (rowP q)) (hne : p ≠ q) : lt2 p q := by
  rw [code_P, code_P] at hc
  unfold lt2
  rcases Int.lt_trichotomy p.1 q.1 with h | h | h
  · exact .inl h
  · refine .inr ⟨h, ?_⟩
    rw [h] at hc
    have h3 : ¬ (p.2 = q.2) := fun z => hne (Prod.ext h z)
    omega
  · exfalso
    have h2 : (q.1 + 1) * B ≤ p.1 * B := Int.mul_le_mul_of_nonneg_right (by omega) (by omega)
    rw [Int.add_mul, Int.one_mul] at h2
    omega
theorem sset_prs {ps : List Pr2} {Q : QD} (hl : ps.length < 64) (hp : ∀ p ∈ ps, 0 ≤ p.1 ∧ 0 ≤ p.2) (h : Q (.list ((line ps).map prD))) : biR .sset [.list (ps.map prD)] Q := by
  obtain ⟨B, h0, hB⟩ := bound ps
  refine ⟨ps.map rowP, 2, B, by rw [List.map_map]; rfl, by simpa using hl, by decide, fun r hr => ?_, fun out hnd hmem hpw => ?_⟩
  · obtain ⟨p, hpm, rfl⟩ := List.mem_map.mp hr
    refine ⟨rfl, fun m hm => ?_⟩
    have h1 := hp p hpm
    have h2 := hB p hpm
    simp only [rowP, List.mem_cons, List.not_mem_nil, or_false] at hm
    rcases hm with rfl | rfl
    · exact ⟨h1.1, h2.1⟩
    · exact ⟨h1.2, h2.2⟩
  · have ex : ∃ outP : List Pr2, out = outP.map rowP := by
      have key : ∀ l : List (List Int), (∀ r ∈ l, r ∈ ps.map rowP) → ∃ lp : List Pr2, l = lp.map rowP := fun l => by
        induction l with
        | nil => exact fun _ => ⟨[], rfl⟩
        | cons r l ih =>
          intro hr
          obtain ⟨lp, rfl⟩ := ih fun x hx => hr x (List.mem_cons_of_mem _ hx)
          obtain ⟨p, _, rfl⟩ := List.mem_map.mp (hr r List.mem_cons_self)
          exact ⟨p :: lp, rfl⟩
      exact key out fun r hr => (hmem r).mp hr
    obtain ⟨outP, rfl⟩ := ex
    have inj : ∀ {p q : Pr2}, rowP p = rowP q → p = q := fun {p q} e => by
      simp only [rowP, List.cons.injEq, and_true] at e
      exact Prod.ext e.1 e.2
    have mem : ∀ x, x ∈ outP ↔ x ∈ ps := fun x => by
      constructor
      · intro hx
        obtain ⟨y, hy, e⟩ := List.mem_map.mp ((hmem (rowP x)).mp (List.mem_map_of_mem hx))
        rw [← inj e]; exact hy
      · intro hx
        obtain ⟨y, hy, e⟩ := List.mem_map.mp ((hmem (rowP x)).mpr (List.mem_map_of_mem hx))
        rw [← inj e]; exact hy
    have up : Up outP := by
      rw [List.pairwise_map] at hpw
      rw [List.nodup_iff_pairwise_ne] at hnd
      rw [List.pairwise_map] at hnd
      refine List.Pairwise.imp_of_mem (R := fun p q => TS.code B (rowP p) ≤ TS.code B (rowP q) ∧ rowP p ≠ rowP q) (fun {p q} hpm hqm z => ?_) (hpw.and hnd)
      have p1 := hp p ((mem p).mp hpm)
      have p2 := hB p ((mem p).mp hpm)
      have q1 := hp q ((mem q).mp hqm)
      have q2 := hB q ((mem q).mp hqm)
      exact code_lt ⟨p1.2, p2.2⟩ ⟨q1.2, q2.2⟩ z.1 fun e => z.2 (by rw [e])
    have e : outP = line ps := up_uniq up (up_line ps) fun x => by rw [mem, mem_line]
    rw [e, List.map_map]
    exact h
theorem asks_usable {n : Nat} {d : D} {Q : QD} {E : Ex} (hs : sh d) (h : if (asks? d).isSome = true then Q .none else E 4 [.str "asks", .int (-1)]) : W (n + 5) f__asks_usable [d] Q E := by
  refine wC_of (fn := fn__asks_usable) rfl rfl ?_
  simp [fn__asks_usable]
  refine is_asks (sh_ok2 hs) ?_
  rw [isAsks_eq]
  cases e : asks? d with
  | none => rw [e] at h; simpa [flds] using h
  | some ps => rw [e] at h; simpa using h
def fault : List Pr2 → Option (Pr2 × Pr2)
  | [] => none
  | p :: ps => match ps.find? fun q => decide (q.2 < p.2) with
    | some q => some (p, q)
    | none => fault ps
def faultD : Option (Pr2 × Pr2) → D
  | none => .none
  | some (p, q) => .tuple [prD p, prD q]
theorem order_fault {n : Nat} {d : D} {Q : QD} {E : Ex} (hs : sh d) (hq : ∀ ps, asks? d = some ps → Q (faultD (fault ps))) (he : asks? d = none → E 4 [.str "asks", .int (-1)]) : W (n + 6) f_order_fault [d] Q E := by
  refine wC_of (fn := fn_order_fault) rfl rfl ?_
  simp [fn_order_fault]
  refine asks_usable hs ?_
  cases e : asks? d with
  | none => simpa using he e
  | some ps =>
    have hq2 := hq ps e
    obtain ⟨rfl, hg, hi⟩ := asks_some e
    simp [frzIt]
    refine frW_enum (I := fun m es ρ => ∃ ps' s1 s2 s3, es = ps'.map prD ∧ ρ = [.va (.tuple (ps.map prD)), s1, s2, s3] ∧ (∃ pre, ps = pre ++ ps' ∧ pre.length = m) ∧ fault ps = fault ps') ?_ ?_ _ 0 _ ⟨ps, .no, .no, .no, rfl, rfl, ⟨[], rfl, rfl⟩, rfl⟩
    · rintro m ρ ⟨ps', s1, s2, s3, hes, rfl, _, hf⟩
      have : ps' = [] := by cases ps' <;> first | rfl | cases hes
      subst this
      rw [hf] at hq2
      simpa [fault, faultD] using hq2
    · rintro m x es ρ R ⟨ps', s1, s2, s3, hes, rfl, ⟨pre, hpre, hm⟩, hf⟩ hR
      cases ps' with
      | nil => cases hes
      | cons p ps' =>
        cases hes
        simp
        simp [frzIt]
        have hc : cut (ps.map prD) (some ((m : Int) + 1)) none = ps'.map prD := by
          rw [cut_from (by omega), hpre]
          have e1 : ((m : Int) + 1).toNat = m + 1 := by omega
          rw [e1, ← hm, List.map_append, List.drop_append]
          simp
        rw [hc]
        simp only [fault] at hf
        refine frW_ind (I := fun es ρ => ∃ qs s3, es = qs.map prD ∧ ρ = [.va (.tuple (ps.map prD)), .va (.int m), .va (prD p), s3] ∧ (ps'.find? fun q => decide (q.2 < p.2)) = qs.find? fun q => decide (q.2 < p.2)) ?_ ?_ _ _ ⟨ps', .no, rfl, rfl, rfl⟩
        · rintro ρ ⟨qs, s3, hes2, rfl, hf2⟩
          have : qs = [] := by cases qs <;> first | rfl | cases hes2
          subst this
          rw [hf2] at hf
          simp
          exact hR _ ⟨ps', _, _, _, rfl, rfl, ⟨pre ++ [p], by rw [hpre]; simp, by simp [hm]⟩, by simpa using hf⟩
        · rintro x2 es2 ρ2 R2 ⟨qs, s3, hes2, rfl, hf2⟩ hR2
          cases qs with
          | nil => cases hes2
          | cons q qs =>
            cases hes2
            simp [prD, pr]
            by_cases hlt : q.2 < p.2
            · simp [hlt] at hf2 ⊢
              rw [hf2] at hf
              rw [hf] at hq2
              exact hq2
            · simp [hlt] at hf2 ⊢
              exact hR2 _ ⟨qs, _, rfl, rfl, hf2⟩
@[simp] theorem noL_prD {p : Pr2} : noL (prD p) = true := rfl
theorem bools_map {α : Type} (f : α → Bool) : ∀ l : List α, bools? (l.map fun x => .bool (f x)) = some (l.map f)
  | [] => rfl
  | x :: l => by simp [bools?, bools_map f l]
theorem mul_small {i j : Int} (h0 : 0 ≤ i) (h1 : i < 1000000) : MulOk i j := .inl ⟨by omega, by omega⟩
theorem upto_map : ∀ (m : Nat) (lo : Int), upto lo m = (List.range m).map fun k => .int (lo + k)
  | 0, _ => rfl
  | m + 1, lo => by
    rw [upto, upto_map m (lo + 1), List.range_succ_eq_map, List.map_cons, List.map_map]
    congr 1
    · simp
    · refine List.map_congr_left fun k _ => ?_
      simp only [Function.comp]
      congr 1
      omega
theorem max_if {i j : Int} : (if j > i then j else i) = max i j := by
  split <;> omega
theorem law_int {n : Nat} {d : D} {Q : QD} {E : Ex} (ho : opq d = false) (h : Q (.bool (isInt d))) : W (n + 1) f__law_int [d] Q E := by
  refine wC_of (fn := fn__law_int) rfl rfl ?_
  cases d <;> simp_all [fn__law_int, isInt]
end K01.P

set_option maxHeartbeats 1000000
namespace K01.P
open PySem Uq
def short : Nat → D → Prop
  | k + 1, .tuple ds => ds.length ≤ 1000 ∧ ∀ x ∈ ds, short k x
  | 0, .tuple _ => False
  | _, .list _ => False
  | _, .dict _ => False
  | _, _ => True
theorem cmp_eq_b {b c : Bool} {Q : QD} (h : Q (.bool (decide (b = c)))) : cmpR .eq (.bool b) (.bool c) Q := by
  refine ⟨⟨by simp [SeqAt.shaped, PyData.canLay0, PyData.depth], by simp [SeqAt.shaped, PyData.canLay0, PyData.depth]⟩, ?_⟩
  have e : PyData.eqv (.bool b) (.bool c) = decide (b = c) := by cases b <;> cases c <;> rfl
  rw [e]
  exact h
theorem same : ∀ (k : Nat) {n : Nat} {d : D} {Q : QD} {E : Ex}, short k d → Q (.bool true) → W (n + k + 1) f__law_same [d, d] Q E := by
  intro k
  induction k with
  | zero =>
    intro n d Q E hs h
    refine wC_of (fn := fn__law_same) rfl rfl ?_
    cases d <;> first | exact hs.elim | skip
    all_goals simp [fn__law_same]
    all_goals first | exact h | exact cmp_eq_b (by simpa using h)
  | succ k ih =>
    intro n d Q E hs h
    refine wC_of (fn := fn__law_same) rfl rfl ?_
    cases d with
    | tuple ds =>
      obtain ⟨hl, hx⟩ := hs
      simp [fn__law_same, frzIt, tgI]
      refine ⟨by omega, ?_⟩
      refine lcG_map (fun _ => .bool true) _ [] (fun x hx2 R hR => ?_) ?_ ?_
      · rw [upto_map] at hx2
        obtain ⟨i, hi, rfl⟩ := List.mem_map.mp hx2
        have hi := List.mem_range.mp hi
        have hat : L2.atI ds (i : Int) = some ds[i] := atI_nat (by simp [hi])
        simp [hat]
        exact ih (hx _ (List.getElem_mem hi)) hR
      · rw [upto_map]
        have : (1000 : Nat) ≤ sizeLine := by decide
        simp
        omega
      · rw [upto_map]
        refine ⟨(List.range ds.length).map fun _ => true, ?_, ?_⟩
        · have := bools_map (fun _ : Nat => true) (List.range ds.length)
          simp only [List.nil_append, List.map_map]
          exact this
        · have e : ((List.range ds.length).map fun _ => true).all id = true := List.all_eq_true.mpr fun x hx => by
            obtain ⟨_, _, rfl⟩ := List.mem_map.mp hx; rfl
          rw [e]; exact h
    | list _ => exact hs.elim
    | dict _ => exact hs.elim
    | _ =>
      simp [fn__law_same]
      first | exact h | exact cmp_eq_b (by simpa using h)
theorem short_str {k : Nat} {s : Str} : short k (.str s) := by cases k <;> trivial
theorem short_int {k : Nat} {s : Int} : short k (.int s) := by cases k <;> trivial
theorem short_bool {k : Nat} {s : Bool} : short k (.bool s) := by cases k <;> trivial
theorem short_none {k : Nat} : short k .none := by cases k <;> trivial
theorem short_pr {k : Nat} {p : Pr2} : short (k + 1) (prD p) := ⟨by simp, fun x hx => by
  simp at hx
  rcases hx with rfl | rfl <;> exact short_int⟩
theorem short_prs {k : Nat} {ps : List Pr2} (h : ps.length ≤ 1000) : short (k + 2) (.tuple (ps.map prD)) := ⟨by simpa using h, fun x hx => by
  obtain ⟨p, _, rfl⟩ := List.mem_map.mp hx
  exact short_pr⟩
theorem short_tup {k : Nat} {ds : List D} (hl : ds.length ≤ 1000) (h : ∀ x ∈ ds, short k x) : short (k + 1) (.tuple ds) := ⟨hl, h⟩
theorem upto_len : ∀ (m : Nat) (lo : Int), (upto lo m).length = m
  | 0, _ => rfl
  | m + 1, lo => by simp [upto, upto_len m]
theorem noLs_upto : ∀ (m : Nat) (lo : Int), noLs (upto lo m) = true
  | 0, _ => rfl
  | m + 1, lo => by rw [upto, noLs_cons, noLs_upto m]; rfl
theorem upto_app : ∀ (a b : Nat) (lo : Int), upto lo a ++ upto (lo + a) b = upto lo (a + b)
  | 0, b, lo => by simp [upto]
  | a + 1, b, lo => by
    rw [Nat.succ_add, upto, upto, List.cons_append]
    have : lo + ((a + 1 : Nat) : Int) = lo + 1 + (a : Int) := by omega
    rw [this, upto_app a b (lo + 1)]
theorem upto_drop : ∀ (k m : Nat) (lo : Int), (upto lo m).drop k = upto (lo + k) (m - k)
  | 0, m, lo => by simp
  | k + 1, 0, lo => by simp [upto]
  | k + 1, m + 1, lo => by
    rw [upto, List.drop_succ_cons, upto_drop k m (lo + 1), Nat.add_sub_add_right]
    congr 1
    omega
theorem upto_get {m i : Nat} {lo : Int} (h : i < m) : (upto lo m)[i]? = some (.int (lo + i)) := by
  rw [upto_map]
  simp [h]
theorem upto_at {m : Nat} {i lo : Int} (h0 : 0 ≤ i) (h : i < m) : L2.atI (upto lo m) i = some (.int (lo + i)) := by
  have := atI_nat (upto_get (m := m) (i := i.toNat) (lo := lo) (by omega))
  have e : ((i.toNat : Nat) : Int) = i := by omega
  rw [e] at this
  exact this
theorem upto_last {m : Nat} {lo : Int} (h : 0 < m) : L2.atI (upto lo m) (-1) = some (.int (lo + m - 1)) := by
  obtain ⟨k, rfl⟩ : ∃ k, m = k + 1 := ⟨m - 1, by omega⟩
  rw [← upto_app k 1 lo]
  simp only [upto]
  rw [atI_last]
  congr 2
  omega
theorem noLs_prs : ∀ ps : List Pr2, noLs (ps.map prD) = true
  | [] => rfl
  | p :: ps => by rw [List.map_cons, noLs_cons, noLs_prs ps]; rfl
theorem noLs_ints : ∀ ps : List Int, noLs (ps.map .int) = true
  | [] => rfl
  | p :: ps => by rw [List.map_cons, noLs_cons, noLs_ints ps]; rfl
def leP2 (p q : Pr2) : Bool := decide (p.1 < q.1 ∨ (p.1 = q.1 ∧ p.2 ≤ q.2))
theorem dataLe_prD (p q : Pr2) : W.dataLe false id (prD p) (prD q) = leP2 p q :=
  congrFun (congrFun (W.dataLe_ii (β := Pr2) (·.1) (·.2)) p) q
theorem srt_map (ps : List Pr2) : (ps.map prD).mergeSort (W.dataLe false id) = (ps.mergeSort leP2).map prD :=
  (List.map_mergeSort fun p _ q _ => (dataLe_prD p q).symm).symm
theorem srt_pw (ps : List Pr2) : (ps.mergeSort leP2).Pairwise (fun p q => leP2 p q = true) := by
  refine List.pairwise_mergeSort (fun a b c h1 h2 => ?_) (fun a b => ?_) ps
  · simp only [leP2, decide_eq_true_eq] at *
    omega
  · simp only [leP2, Bool.or_eq_true, decide_eq_true_eq]
    omega
theorem sorted_prs {ps : List Pr2} {Q : QD} (h : Q (.list ((ps.mergeSort leP2).map prD))) : biR .sorted [.list (ps.map prD)] Q := by
  refine ⟨⟨fun d hd e he => ?_, ?_, fun d hd => ?_⟩, ?_⟩
  · obtain ⟨p, _, rfl⟩ := List.mem_map.mp hd
    obtain ⟨q, _, rfl⟩ := List.mem_map.mp he
    simp [prD, pr, W.alike, W.alikeAll]
  · exact W.Sortable.tuples fun b => ⟨_, _, rfl⟩
  · obtain ⟨p, _, rfl⟩ := List.mem_map.mp hd
    exact shaped_pr
  · rw [srt_map]; exact h
theorem eqv_pr {a b c d : Int} : PyData.eqv (pr a b) (pr c d) = decide (a = c ∧ b = d) := by
  simp only [pr, PyData.eqv, PyData.eqvAll]
  by_cases h1 : a = c <;> by_cases h2 : b = d <;> simp [h1, h2]
theorem line_of_up {ps qs : List Pr2} (hu : Up qs) (h : ∀ x, x ∈ qs ↔ x ∈ ps) : qs = line ps :=
  up_uniq hu (up_line ps) fun x => by rw [h, mem_line]
theorem up_snoc {qs : List Pr2} {p : Pr2} (hu : Up qs) (h : ∀ q ∈ qs, lt2 q p) : Up (qs ++ [p]) := by
  refine List.pairwise_append.mpr ⟨hu, List.pairwise_singleton _ _, fun a ha b hb => ?_⟩
  rw [List.mem_singleton] at hb
  subst hb
  exact h a ha
theorem nil_or_snoc {α : Type} (l : List α) : l = [] ∨ ∃ a b, l = a ++ [b] := by
  rcases List.eq_nil_or_concat l with h | ⟨a, b, h⟩
  · exact .inl h
  · exact .inr ⟨a, b, by rw [h, List.concat_eq_append]⟩
theorem line_core {ps : List Pr2} {X : Cl} {k : K} {s0 : Sl} (hl : ps.length ≤ 1000) (h : ∀ s2, k.nx [s0, .ol ((line ps).map prD), s2]) :
    frW (wSs X [.ite (.or (.cmp .eq (.bi .len [(.var 1)]) (.int 0)) (.cmp .ne (.ix (.var 1) (.neg (.int 1))) (.var 2))) [.app 1 (.var 2)] [], .kil [2]]) (.nm 2) k ((ps.mergeSort leP2).map prD) [s0, .ol [], .no] := by
  refine frW_ind (I := fun es ρ => ∃ (rest acc : List Pr2) (s2 : Sl), es = rest.map prD ∧ ρ = [s0, .ol (acc.map prD), s2] ∧ Up acc ∧ rest.Pairwise (fun p q => leP2 p q = true) ∧ (∀ x, x ∈ acc ∨ x ∈ rest ↔ x ∈ ps) ∧ (∀ a ∈ acc, ∀ l, acc.getLast? = some l → leP2 a l = true) ∧ (∀ a ∈ acc, ∀ b ∈ rest, leP2 a b = true) ∧ acc.length + rest.length ≤ 1000) ?_ ?_ _ _
    ⟨ps.mergeSort leP2, [], .no, rfl, rfl, List.Pairwise.nil, srt_pw ps, fun x => by simp [List.mem_mergeSort], by simp, by simp, by simpa using hl⟩
  · rintro ρ ⟨rest, acc, s2, he, rfl, hu, _, hm, _, _, _⟩
    have : rest = [] := by cases rest <;> first | rfl | cases he
    subst this
    have e : acc = line ps := line_of_up hu fun x => by rw [← hm x]; simp
    rw [e]
    exact h s2
  · rintro x es ρ R ⟨rest, acc, s2, he, rfl, hu, hpw, hm, hla, hab, hlen⟩ hR
    cases rest with
    | nil => cases he
    | cons p rest =>
      cases he
      have hpw' := List.pairwise_cons.mp hpw
      simp only [List.length_cons] at hlen
      have sz : acc.length < sizeLine := lt_size (by omega)
      have addp : (∀ q ∈ acc, lt2 q p) → R [s0, .ol (acc.map prD ++ [prD p]), .no] := fun hlt => by
        refine hR _ ⟨rest, acc ++ [p], .no, rfl, by simp, up_snoc hu hlt, hpw'.2, fun x => ?_, fun a ha l hl => ?_, fun a ha b hb => ?_, by rw [List.length_append, List.length_singleton]; omega⟩
        · rw [← hm x]
          simp only [List.mem_append, List.mem_singleton, List.mem_cons, List.not_mem_nil, or_false]
          constructor
          · rintro ((h | h) | h)
            · exact .inl h
            · exact .inr (.inl h)
            · exact .inr (.inr h)
          · rintro (h | h | h)
            · exact .inl (.inl h)
            · exact .inl (.inr h)
            · exact .inr h
        · rw [List.getLast?_concat] at hl
          cases hl
          rcases List.mem_append.mp ha with ha | ha
          · exact hab a ha _ List.mem_cons_self
          · rw [List.mem_singleton] at ha
            subst ha
            simp [leP2]
        · rcases List.mem_append.mp ha with ha | ha
          · exact hab a ha b (List.mem_cons_of_mem _ hb)
          · rw [List.mem_singleton] at ha
            subst ha
            exact hpw'.1 b hb
      rcases nil_or_snoc acc with rfl | ⟨acc', l, rfl⟩
      · simp [shr_n]
        refine ⟨lt_size (by decide), ?_⟩
        have := addp (fun q hq => nomatch hq)
        simpa using this
      · have h0 : ¬ (((acc' ++ [l]).length : Int) = 0) := by rw [List.length_append, List.length_singleton]; omega
        have hat : L2.atI ((acc' ++ [l]).map prD) (-1) = some (prD l) := by rw [List.map_append]; exact atI_last
        have e : cmpR .ne (prD l) (prD p) = fun Q : QD => EqOk (prD l) (prD p) ∧ Q (.bool (!decide (l.1 = p.1 ∧ l.2 = p.2))) := by
          funext Q
          show (_ ∧ Q (.bool (!PyData.eqv (pr l.1 l.2) (pr p.1 p.2)))) = _
          rw [eqv_pr]
        have eok : EqOk (prD l) (prD p) := ⟨shaped_pr, shaped_pr⟩
        by_cases hlp : l.1 = p.1 ∧ l.2 = p.2
        · have : l = p := Prod.ext hlp.1 hlp.2
          subst this
          simp [-List.map_append, h0, hat, e, eok]
          refine hR _ ⟨rest, acc' ++ [l], _, rfl, rfl, hu, hpw'.2, fun x => ?_, hla, fun a ha b hb => hab a ha b (List.mem_cons_of_mem _ hb), by omega⟩
          rw [← hm x]
          simp only [List.mem_append, List.mem_singleton, List.mem_cons, List.not_mem_nil, or_false]
          constructor
          · rintro ((h | h) | h)
            · exact .inl (.inl h)
            · exact .inl (.inr h)
            · exact .inr (.inr h)
          · rintro ((h | h) | h | h)
            · exact .inl (.inl h)
            · exact .inl (.inr h)
            · exact .inl (.inr h)
            · exact .inr h
        · simp [-List.map_append, h0, hat, e, eok, hlp, shr_n]
          refine ⟨by simpa using sz, ?_⟩
          refine addp fun q hq => ?_
          have h1 := hab l (by simp) p List.mem_cons_self
          have h2 := hla q hq l (by simp)
          simp only [leP2, decide_eq_true_eq] at h1 h2
          unfold lt2
          omega
theorem law_line {n : Nat} {ps : List Pr2} {Q : QD} {E : Ex} (hl : ps.length ≤ 1000) (h : Q (.tuple ((line ps).map prD))) : W (n + 1) f__law_line [.list (ps.map prD)] Q E := by
  refine wC_of (fn := fn__law_line) rfl rfl ?_
  simp [fn__law_line, frzIt, nmsL, nms]
  refine sorted_prs ?_
  simp
  refine line_core hl fun s2 => ?_
  simp
  exact h
theorem incr_up : ∀ {ps : List Pr2} {p : Pr2}, incr p ps = true → (∀ q ∈ ps, lt2 p q) ∧ Up ps
  | [], p, _ => ⟨fun _ h => (nomatch h), List.Pairwise.nil⟩
  | q :: r, p, h => by
    simp only [incr, Bool.and_eq_true] at h
    obtain ⟨h1, h2⟩ := h
    have h1 : lt2 p q := by simpa [ltP] using h1
    obtain ⟨h3, h4⟩ := incr_up h2
    refine ⟨fun x hx => ?_, List.pairwise_cons.mpr ⟨h3, h4⟩⟩
    rcases List.mem_cons.mp hx with rfl | hx
    · exact h1
    · exact lt2_trans h1 (h3 x hx)
/-- ends that never fall -/
abbrev Mono (l : List Pr2) : Prop := l.Pairwise fun p q => p.2 ≤ q.2
theorem str_good {p : Pr2} (h : Good p) : str? (prD p) = some p := by
  unfold Good at h
  simp only [prD, pr, str?]
  rw [if_pos h]
theorem rows_of_good : ∀ {ps : List Pr2}, (∀ p ∈ ps, Good p) → rows? (ps.map prD) = some ps
  | [], _ => rfl
  | p :: ps, h => by
    simp only [List.map_cons, rows?, str_good (h p List.mem_cons_self), rows_of_good fun q hq => h q (List.mem_cons_of_mem _ hq)]
    rfl
theorem incr_of_up : ∀ {ps : List Pr2} {p : Pr2}, Up ps → (∀ q ∈ ps, lt2 p q) → incr p ps = true
  | [], p, _, _ => rfl
  | q :: r, p, hu, h => by
    have hu' := List.pairwise_cons.mp hu
    have h1 := h q List.mem_cons_self
    simp only [incr, Bool.and_eq_true]
    exact ⟨by simpa [ltP] using h1, incr_of_up hu'.2 hu'.1⟩
theorem asks_of {ps : List Pr2} (hu : Up ps) (hg : ∀ p ∈ ps, Good p) : asks? (.tuple (ps.map prD)) = some ps := by
  simp only [asks?, rows_of_good hg]
  rw [if_pos (incr_of_up hu fun q hq => by
    have := hg q hq
    unfold Good at this
    unfold lt2
    show (-1 : Int) < q.1 ∨ _
    omega)]
theorem goEnds_iff : ∀ {ps : List Pr2} {e : Int}, goEnds e ps = true ↔ (∀ p ∈ ps, e ≤ p.2) ∧ Mono ps
  | [], e => by simp [goEnds]
  | p :: ps, e => by
    simp only [goEnds, Bool.and_eq_true, Bool.not_eq_true', decide_eq_false_iff_not, goEnds_iff (ps := ps), List.pairwise_cons, List.mem_cons, forall_eq_or_imp]
    constructor
    · rintro ⟨h1, h2, h3⟩
      exact ⟨⟨by omega, fun q hq => by have := h2 q hq; omega⟩, h2, h3⟩
    · rintro ⟨⟨h1, _⟩, h2, h3⟩
      exact ⟨by omega, h2, h3⟩
theorem fault_iff : ∀ {ps : List Pr2}, fault ps = none ↔ Mono ps
  | [] => by simp [fault]
  | p :: ps => by
    simp only [fault]
    cases e : ps.find? fun q => decide (q.2 < p.2) with
    | some q =>
      have h1 := List.find?_some e
      have h2 := List.mem_of_find?_eq_some e
      simp only [decide_eq_true_eq] at h1
      constructor
      · intro h; cases h
      · intro h
        have := (List.pairwise_cons.mp h).1 q h2
        omega
    | none =>
      have h1 := List.find?_eq_none.mp e
      simp only [decide_eq_true_eq] at h1
      simp only [fault_iff (ps := ps)]
      exact ⟨fun h => List.pairwise_cons.mpr ⟨fun q hq => by have := h1 q hq; omega, h⟩, fun h => (List.pairwise_cons.mp h).2⟩
theorem goEnds_fault {ps : List Pr2} (hg : ∀ p ∈ ps, Good p) : goEnds 0 ps = (fault ps).isNone := by
  have h1 : goEnds 0 ps = true ↔ Mono ps := goEnds_iff.trans ⟨fun h => h.2, fun h => ⟨fun p hp => by have := hg p hp; unfold Good at this; omega, h⟩⟩
  rw [← fault_iff] at h1
  cases e : fault ps with
  | none => rw [h1.mpr e]; rfl
  | some q =>
    have : ¬ goEnds 0 ps = true := fun z => by rw [h1.mp z] at e; cases e
    simpa using this
def shd (k : Nat) (d : D) : Prop := d.canLay0 = true ∧ d.depth ≤ k
theorem shd_sh {k : Nat} {d : D} (h : shd k d) (hk : k ≤ 64) : sh d := by
  unfold sh SeqAt.shaped
  rw [h.1, decide_eq_true (Nat.le_trans h.2 hk)]
  rfl
theorem shd_le {k m : Nat} {d : D} (h : shd k d) (hk : k ≤ m) : shd m d := ⟨h.1, Nat.le_trans h.2 hk⟩
theorem shd_all {k : Nat} : ∀ {ds : List D}, (∀ x ∈ ds, shd k x) → PyData.canLayAll0 ds = true ∧ PyData.depthAll ds ≤ k
  | [], _ => ⟨rfl, by simp [PyData.depthAll]⟩
  | d :: ds, h => by
    obtain ⟨a, b⟩ := shd_all fun x hx => h x (List.mem_cons_of_mem _ hx)
    obtain ⟨c, e⟩ := h d List.mem_cons_self
    simp only [PyData.canLayAll0, PyData.depthAll, a, c, Bool.and_self, true_and]
    omega
theorem shd_tup {k : Nat} {ds : List D} (h : ∀ x ∈ ds, shd k x) : shd (k + 1) (.tuple ds) := by
  obtain ⟨a, b⟩ := shd_all h
  exact ⟨by simpa [PyData.canLay0] using a, by simp only [PyData.depth]; omega⟩
theorem shd_lst {k : Nat} {ds : List D} (h : ∀ x ∈ ds, shd k x) : shd (k + 1) (.list ds) := by
  obtain ⟨a, b⟩ := shd_all h
  exact ⟨by simpa [PyData.canLay0] using a, by simp only [PyData.depth]; omega⟩
theorem shd_int {k : Nat} {i : Int} : shd k (.int i) := ⟨rfl, by simp [PyData.depth]⟩
theorem shd_bool {k : Nat} {i : Bool} : shd k (.bool i) := ⟨rfl, by simp [PyData.depth]⟩
theorem shd_none {k : Nat} : shd k .none := ⟨rfl, by simp [PyData.depth]⟩
theorem shd_str {k : Nat} {s : Str} (h : PyData.canLay0 (.str s) = true) : shd k (.str s) := ⟨h, by simp [PyData.depth]⟩
theorem shd_pr {k : Nat} {p : Pr2} : shd (k + 1) (prD p) := shd_tup fun x hx => by
  simp at hx
  rcases hx with rfl | rfl <;> exact shd_int
theorem shd_prs {k : Nat} {ps : List Pr2} : shd (k + 2) (.tuple (ps.map prD)) := shd_tup fun x hx => by
  obtain ⟨p, _, rfl⟩ := List.mem_map.mp hx
  exact shd_pr
theorem shd_prl {k : Nat} {ps : List Pr2} : shd (k + 2) (.list (ps.map prD)) := shd_lst fun x hx => by
  obtain ⟨p, _, rfl⟩ := List.mem_map.mp hx
  exact shd_pr
theorem sh_prs {ps : List Pr2} : sh (.tuple (ps.map prD)) := shd_sh (shd_prs (k := 0)) (by decide)
@[simp] theorem look_word {a w : D} : List.lookup (Str.ofString "word") [(Str.ofString "at", a), (Str.ofString "word", w)] = some w := by
  have h : (Str.ofString "word" == Str.ofString "at") = false := by decide
  simp [List.lookup, h]
@[simp] theorem look_at {a w : D} : List.lookup (Str.ofString "at") [(Str.ofString "at", a), (Str.ofString "word", w)] = some a := by
  simp [List.lookup]
/-- told as refused -/
def noD (w : Str) : D := .tuple [.str "no", .str w, .int (-1), .bool true]
theorem short_no {w : Str} : short 4 (noD w) := short_tup (by simp) fun x hx => by
  simp at hx
  rcases hx with rfl | rfl | rfl | rfl
  · exact short_str
  · exact short_str
  · exact short_int
  · exact short_bool
theorem atI_mem {ds : List D} {j : Int} (h0 : 0 ≤ j) (h1 : j < ds.length) : ∃ d, L2.atI ds j = some d ∧ d ∈ ds := by
  have e : ((j.toNat : Nat) : Int) = j := by omega
  have hl : j.toNat < ds.length := by omega
  refine ⟨ds[j.toNat], ?_, List.getElem_mem hl⟩
  have := atI_nat (xs := ds) (i := j.toNat) (List.getElem?_eq_getElem hl)
  rw [e] at this
  exact this
theorem shd_pair {k : Nat} {a b : D} (ha : shd k a) (hb : shd k b) : shd (k + 1) (.tuple [a, b]) := shd_tup fun x hx => by
  simp at hx
  rcases hx with rfl | rfl <;> assumption
theorem shd_uno {k : Nat} {a : D} (ha : shd k a) : shd (k + 1) (.tuple [a]) := shd_tup fun x hx => by
  simp at hx
  subst hx; exact ha
theorem cut1 {xs : List D} : cut xs (some 1) none = xs.drop 1 := cut_from (by decide)
theorem cutT1 {xs : List D} : cut xs none (some 1) = xs.take 1 := cut_to (by decide)
theorem isNon_fault {f : Option (Pr2 × Pr2)} : isNon (faultD f) = f.isNone := by cases f <;> rfl
theorem noL_fault {f : Option (Pr2 × Pr2)} : noL (faultD f) = true := by cases f <;> rfl
theorem si (i : Int) : sh (.int i) := shd_sh (k := 0) shd_int (by decide)
theorem sn : sh .none := shd_sh (k := 0) shd_none (by decide)
end K01.P

set_option maxHeartbeats 1000000
namespace K01.P
open PySem Uq
theorem log_63 {b : Int} (h0 : 0 < b) (h1 : b < 9223372036854775808) : b.natAbs.log2 < 9000 := by
  have : b.natAbs < 2 ^ 63 := by omega
  have := (Nat.log2_lt (by omega)).mpr this
  omega
@[simp] theorem lg131 : (Nat.log2 131 < 9000) = True := by simp; exact log_n (by decide) (by decide)
@[simp] theorem lg613 : (Nat.log2 613 < 9000) = True := by simp; exact log_n (by decide) (by decide)
@[simp] theorem lg8 : (Nat.log2 8 < 9000) = True := by simp; exact log_n (by decide) (by decide)
@[simp] theorem lg2 : (Nat.log2 2 < 9000) = True := by simp; exact log_n (by decide) (by decide)
theorem law_nums {n : Nat} {ns bs : List Int} {a : Int} {Q : QD} {E : Ex} (ha : 0 ≤ a ∧ a < 64) (hn : ns.length ≤ 63) (hb : ∀ b ∈ bs, 0 < b ∧ b < 9223372036854775808) (hl : bs.length ≤ 1000)
    (h : ∀ xs, Dr xs bs → Q (.list (xs.map .int))) : W (n + 1) f__law_nums [lk ns, .int a, .list (bs.map .int)] Q E := by
  refine wC_of (fn := fn__law_nums) rfl rfl ?_
  refine wSs_cut 3 ?_
  generalize hr : fn__law_nums.body.drop 3 = rest
  have key : ∀ c : Int, wSs ⟨wC T sub flds n, sub, flds⟩ rest [.va (lk ns), .va (.int a), .va (.list (bs.map .int)), .va (.int c), .no, .no, .no, .no, .no, .no] ⟨fun _ => Q .none, Q, fun _ => False, fun _ => False, fun c fs _ => E c fs⟩ := by
    intro c
    subst hr
    refine wSs_cut 3 ?_
    generalize hr : (fn__law_nums.body.drop 3).drop 3 = rest
    have key : ∀ sd : Int, wSs ⟨wC T sub flds n, sub, flds⟩ rest [.va (lk ns), .va (.int a), .va (.list (bs.map .int)), .va (.int c), .va (.int sd), .no, .no, .no, .no, .no] ⟨fun _ => Q .none, Q, fun _ => False, fun _ => False, fun c fs _ => E c fs⟩ := by
      intro sd
      subst hr
      simp [fn__law_nums, asgn_n, asgn_l, frzIt]
      refine ⟨mul_r (by decide) (by decide), mul_r (by decide) (by decide), mul_r (by decide) (by decide), ?_⟩
      refine frW_ind (I := fun es ρ => ∃ (bs' xs done : List Int) (c mix : Int) (s9 : Sl) (b : Bool), es = bs'.map .int ∧ ρ = [.va (lk ns), .va (.int a), .va (.list (bs.map .int)), .va (.int c), .no, .no, .va (.bool b), .va (.int mix), .ol (xs.map .int), s9] ∧ Dr xs done ∧ done ++ bs' = bs) ?_ ?_ _ _ ⟨bs, [], [], _, _, _, _, rfl, rfl, .nil, rfl⟩
      · rintro ρ ⟨bs', xs, done, c, mix, s9, b, he, rfl, hd, hbs⟩
        have : bs' = [] := by cases bs' <;> first | rfl | cases he
        subst this
        rw [List.append_nil] at hbs
        subst hbs
        simp
        exact h xs hd
      · rintro x es ρ R ⟨bs', xs, done, c, mix, s9, b, he, rfl, hd, hbs⟩ hR
        cases bs' with
        | nil => cases he
        | cons y bs' =>
          cases he
          have hy := hb y (by rw [← hbs]; simp)
          have hlen : xs.length < sizeLine := lt_size (by
            have := hd.len
            have hz := congrArg List.length hbs
            rw [List.length_append, List.length_cons] at hz
            omega)
          have hy0 : y ≠ 0 := by omega
          have lg := log_63 hy.1 hy.2
          have fin : ∀ (z c mix : Int) (s9 : Sl), R [.va (lk ns), .va (.int a), .va (.list (bs.map .int)), .va (.int c), .no, .no, .va (.bool b), .va (.int mix), .ol ((xs ++ [z.fmod y]).map .int), s9] := fun z c mix s9 =>
            hR _ ⟨bs', xs ++ [z.fmod y], done ++ [y], c, mix, s9, b, rfl, rfl, hd.snoc (fmod_in hy.1).1 (fmod_in hy.1).2, by rw [List.append_assoc]; exact hbs⟩
          simp only [List.map_append, List.map_cons, List.map_nil] at fin
          cases b
          · simp [asgn_n, shr_n, hy0, hlen]
            exact ⟨mul_r (by decide) (by decide), fin _ _ _ _⟩
          · by_cases hc : 0 < c
            · simp [asgn_n, shr_n, hy0, hlen, hc, lg]
              exact fin _ _ _ _
            · simp [asgn_n, shr_n, hy0, hlen, hc]
              exact ⟨mul_r (by decide) (by decide), fin _ _ _ _⟩
    simp [fn__law_nums, asgn_n, frzIt]
    refine ⟨mul_l (by decide) (by decide), ?_⟩
    refine frW_ind (I := fun es ρ => (∃ is : List Int, es = is.map .int) ∧ ∃ (sd : Int), ρ = [.va (lk ns), .va (.int a), .va (.list (bs.map .int)), .va (.int c), .va (.int sd), .no, .no, .no, .no, .no]) ?_ ?_ _ _ ⟨⟨ns, by first | rfl | simp⟩, _, rfl⟩
    · rintro ρ ⟨_, sd, rfl⟩
      simp
      exact key sd
    · rintro x es ρ R ⟨⟨is, he⟩, sd, rfl⟩ hR
      cases is with
      | nil => cases he
      | cons i is =>
        cases he
        simp [asgn_n]
        exact ⟨mul_r (by decide) (by decide), hR _ ⟨⟨is, rfl⟩, _, rfl⟩⟩
  simp [fn__law_nums, asgn_n]
  have m4 : ∀ c : Int, MulOk 2 c := fun c => mul_l (by decide) (by decide)
  by_cases hlt : a < ns.length
  · have hat : ∃ c, (ns.map PyData.int)[a.toNat]? = some (.int c) := ⟨ns[a.toNat]'(by omega), by simp⟩
    obtain ⟨c, hc⟩ := hat
    have hat := atI_nat hc
    have ea : ((a.toNat : Nat) : Int) = a := by omega
    rw [ea] at hat
    simp [hlt, hat]
    by_cases h0 : c < 0
    · simp [h0, m4]; exact key _
    · simp [h0]; exact key _
  · simp [hlt]; exact key _
theorem law_nums_rep {n : Nat} {ns pre : List Int} {ds : List D} {k : Nat} {a c : Int} {Q : QD} {E : Ex} (e : ds = (pre ++ List.replicate k c).map .int) (ha : 0 ≤ a ∧ a < 64) (hn : ns.length ≤ 63) (hb : ∀ b ∈ pre, 0 < b ∧ b < 9223372036854775808) (hc : 0 < c ∧ c < 9223372036854775808) (hl : pre.length + k ≤ 1000)
    (h : ∀ xs, Dr xs (pre ++ List.replicate k c) → Q (.list (xs.map .int))) : W (n + 1) f__law_nums [lk ns, .int a, .list ds] Q E := by
  rw [e]
  refine law_nums ha hn (fun b hb' => ?_) (by rw [List.length_append, List.length_replicate]; exact hl) h
  rcases List.mem_append.mp hb' with h1 | h1
  · exact hb b h1
  · rw [List.eq_of_mem_replicate h1]; exact hc
theorem law_number {n : Nat} {d : D} {Q : QD} {E : Ex} (ho : opq d = false) (h : Q (.bool (isNum d))) : W (n + 2) f__law_number [d] Q E := by
  refine wC_of (fn := fn__law_number) rfl rfl ?_
  simp [fn__law_number]
  refine law_int ho ?_
  cases d <;> simp_all [isInt, isNum]
theorem law_stretch {n : Nat} {d : D} {Q : QD} {E : Ex} (hs : sh d) (h : Q (.bool (str? d).isSome)) : W (n + 3) f__law_stretch [d] Q E := by
  refine wC_of (fn := fn__law_stretch) rfl rfl ?_
  cases d with
  | tuple xs =>
    match xs, hs, h with
    | [], hs, h => simp [fn__law_stretch]; exact h
    | [a], hs, h => simp [fn__law_stretch]; cases a <;> exact h
    | a :: b :: c :: r, hs, h =>
      have h2 : ¬ ((r.length : Int) + 1 + 1 + 1 = 2) := by omega
      simp [fn__law_stretch, h2]
      cases a <;> first | exact h | (cases b <;> exact h)
    | [a, b], hs, h =>
      have ha := sh_opq (sh_mem hs (show a ∈ [a, b] by simp))
      have hb := sh_opq (sh_mem hs (show b ∈ [a, b] by simp))
      simp [fn__law_stretch]
      refine law_number ha ?_
      cases a with
      | int i =>
        by_cases h0 : 0 ≤ i
        · simp [isNum, h0]
          refine law_number hb ?_
          cases b with
          | int j =>
            by_cases h1 : 0 ≤ j
            · simp [isNum, h1]
              by_cases h2 : i < j
              · have : str? (.tuple [.int i, .int j]) = some (i, j) := by simp only [str?]; rw [if_pos (by omega)]
                rw [this] at h
                simpa [h2] using h
              · have : str? (.tuple [.int i, .int j]) = none := by simp only [str?]; rw [if_neg (by omega)]
                rw [this] at h
                simpa [h2] using h
            · have : str? (.tuple [.int i, .int j]) = none := by simp only [str?]; rw [if_neg (by omega)]
              rw [this] at h
              simpa [isNum, h1] using h
          | _ => simp [isNum]; exact h
        · have : str? (.tuple [.int i, b]) = none := by
            cases b <;> try rfl
            simp only [str?]; rw [if_neg (by omega)]
          rw [this] at h
          simpa [isNum, h0] using h
      | _ => simp [isNum]; exact h
  | dict kvs => exact absurd (sh_opq hs) (by simp)
  | _ =>
    simp [fn__law_stretch]
    exact h
/-! rising rows of numbers -/
def goLot (p : Int) : List D → Bool
  | [] => true
  | .int i :: r => decide (p < i) && goLot i r
  | _ :: _ => false
def isLot : D → Bool
  | .tuple ds => goLot (-1) ds
  | _ => false
theorem is_lot {n : Nat} {d : D} {Q : QD} {E : Ex} (hs : sh d) (h : Q (.bool (isLot d))) : W (n + 3) f_is_lot [d] Q E := by
  refine wC_of (fn := fn_is_lot) rfl rfl ?_
  cases d with
  | tuple ds =>
    simp [fn_is_lot, frzIt]
    refine frW_ind (I := fun es ρ => (∀ x ∈ es, sh x) ∧ ∃ (p : Int) (s2 : Sl), ρ = [.va (.tuple ds), .va (.int (p + 1)), s2] ∧ -1 ≤ p ∧ goLot (-1) ds = goLot p es) ?_ ?_ _ _ ⟨fun x hx => sh_mem hs hx, -1, .no, rfl, by decide, rfl⟩
    · rintro ρ ⟨_, p, s2, rfl, hp, e⟩
      simp
      simpa [isLot, e, goLot] using h
    · rintro d es ρ R ⟨hok, p, s2, rfl, hp, e⟩ hR
      have hd := hok d List.mem_cons_self
      have rest : ∀ x ∈ es, sh x := fun x hx => hok x (List.mem_cons_of_mem _ hx)
      simp
      refine is_number (sh_opq hd) ?_
      cases d with
      | int i =>
        simp only [goLot] at e
        by_cases h0 : 0 ≤ i
        · by_cases h1 : p < i
          · have h2 : ¬ i < p + 1 := by omega
            simp [isNum, h0, h2]
            exact hR _ ⟨rest, i, _, rfl, by omega, by simpa [h1] using e⟩
          · have h2 : i < p + 1 := by omega
            simp [h1] at e
            simpa [isNum, h0, h2, isLot, e] using h
        · have h1 : ¬ p < i := by omega
          simp [h1] at e
          simpa [isNum, h0, isLot, e] using h
      | _ =>
        simp only [goLot] at e
        simpa [isNum, isLot, e] using h
  | dict kvs => exact absurd (sh_opq hs) (by simp)
  | _ =>
    simp [fn_is_lot]
    exact h
theorem law_lot {n : Nat} {d : D} {Q : QD} {E : Ex} (hs : sh d) (h : Q (.bool (isLot d))) : W (n + 2) f__law_lot [d] Q E := by
  refine wC_of (fn := fn__law_lot) rfl rfl ?_
  cases d with
  | tuple ds =>
    simp [fn__law_lot, frzIt]
    refine frW_ind (I := fun es ρ => (∀ x ∈ es, sh x) ∧ ∃ (p : Int) (s2 : Sl), ρ = [.va (.tuple ds), .va (.int p), s2] ∧ goLot (-1) ds = goLot p es) ?_ ?_ _ _ ⟨fun x hx => sh_mem hs hx, -1, .no, rfl, rfl⟩
    · rintro ρ ⟨_, p, s2, rfl, e⟩
      simp
      simpa [isLot, e, goLot] using h
    · rintro d es ρ R ⟨hok, p, s2, rfl, e⟩ hR
      have hd := hok d List.mem_cons_self
      have rest : ∀ x ∈ es, sh x := fun x hx => hok x (List.mem_cons_of_mem _ hx)
      simp
      refine law_int (sh_opq hd) ?_
      cases d with
      | int i =>
        simp only [goLot] at e
        by_cases h1 : p < i
        · have h2 : ¬ i ≤ p := by omega
          simp [isInt, h2]
          exact hR _ ⟨rest, i, _, rfl, by simpa [h1] using e⟩
        · have h2 : i ≤ p := by omega
          simp [h1] at e
          simpa [isInt, h2, isLot, e] using h
      | _ =>
        simp only [goLot] at e
        simpa [isInt, isLot, e] using h
  | dict kvs => exact absurd (sh_opq hs) (by simp)
  | _ =>
    simp [fn__law_lot]
    exact h
end K01.P

set_option maxHeartbeats 1000000
namespace K01.P
open PySem Uq
inductive AR | ok (n : Int) | bad (w : Str) (at_ : Int)
def runA (p : Pr2) (k : Nat) : List D → AR
  | [] => .ok k
  | d :: ds => match str? d with
    | none => .bad "ask" k
    | some q => if ltP p.1 p.2 q.1 q.2 = true then runA q (k + 1) ds else .bad "order" k
def letsA : D → AR
  | .tuple ds => runA (-1, -1) 0 ds
  | _ => .bad "shape" (-1)
def AR.good : AR → Bool
  | .ok _ => true
  | .bad _ _ => false
theorem runA_good : ∀ (ds : List D) (p : Pr2) (k : Nat), (runA p k ds).good = goAsks p ds
  | [], _, _ => rfl
  | d :: ds, p, k => by
    simp only [runA, goAsks]
    cases str? d with
    | none => rfl
    | some q =>
      simp only
      cases ltP p.1 p.2 q.1 q.2 with
      | true => simp [runA_good ds]
      | false => simp [AR.good]
theorem letsA_good (d : D) : (letsA d).good = isAsks d := by
  cases d <;> first | rfl | exact runA_good _ _ _
def chkA : AR → D
  | .ok n => .tuple [.str "ok", .int n]
  | .bad w a => .tuple [.str "paper", .str w, .int a, .bool true]
def AQ (r : AR) (Q : QD) (E : Ex) : Prop := match r with
  | .ok n => Q (.int n)
  | .bad w a => E 3 [.str w, .int a]
/-- what stands ahead of a place -/
def Ahead (ds es : List D) (m : Nat) (p : Pr2) : Prop := (∃ pre, ds = pre ++ es ∧ pre.length = m) ∧ (m = 0 → p = (-1, -1)) ∧ (0 < m → ds[m - 1]? = some (prD p))
theorem ahead_next {ds es : List D} {m : Nat} {p q : Pr2} (h : Ahead ds (prD q :: es) m p) : Ahead ds es (m + 1) q := by
  obtain ⟨⟨pre, rfl, hm⟩, _, _⟩ := h
  refine ⟨⟨pre ++ [prD q], by simp, by simp [hm]⟩, by omega, fun _ => ?_⟩
  subst hm
  simp
theorem ltP_neg {q : Pr2} (h : 0 ≤ q.1) : ltP (-1) (-1) q.1 q.2 = true := by
  unfold ltP
  have : (-1 : Int) < q.1 := by omega
  simp [this]
theorem cmp_lt_pr {a b c d : Int} {Q : QD} (h : Q (.bool (ltP a b c d))) : cmpR .lt (pr a b) (pr c d) Q := by
  show LtOk _ _ ∧ Q (.bool (W.dataLt (pr a b) (pr c d)))
  rw [dataLt_pr]
  exact ⟨ltOk_pr, h⟩
theorem lets_asks {n : Nat} {d : D} {Q : QD} {E : Ex} (hs : sh d) (h : AQ (letsA d) Q E) : W (n + 4) f_lets_asks [d] Q E := by
  refine wC_of (fn := fn_lets_asks) rfl rfl ?_
  cases d with
  | tuple ds =>
    simp [fn_lets_asks, frzIt]
    refine frW_enum (I := fun m es ρ => (∀ x ∈ es, sh x) ∧ ∃ (p : Pr2) (s1 s2 : Sl), ρ = [.va (.tuple ds), s1, s2] ∧ Ahead ds es m p ∧ letsA (.tuple ds) = runA p m es) ?_ ?_ ds 0 _ ⟨fun x hx => sh_mem hs hx, (-1, -1), .no, .no, rfl, ⟨⟨[], rfl, rfl⟩, fun _ => rfl, fun z => absurd z (by decide)⟩, rfl⟩
    · rintro m ρ ⟨_, p, s1, s2, rfl, ⟨⟨pre, hpre, hm⟩, _, _⟩, e⟩
      rw [e] at h
      rw [List.append_nil] at hpre
      subst hpre
      simp [runA, AQ] at h
      simp
      rw [hm]
      exact h
    · rintro m d es ρ R ⟨hok, p, s1, s2, rfl, ha, e⟩ hR
      have hd := hok d List.mem_cons_self
      have rest : ∀ x ∈ es, sh x := fun x hx => hok x (List.mem_cons_of_mem _ hx)
      simp only [runA] at e
      simp
      refine is_stretch (sh_opq hd) (fun ds' e' x hx => by subst e'; exact sh_opq (sh_mem hd hx)) ?_
      rw [str_is]
      cases q : str? d with
      | none =>
        rw [q] at e
        rw [e] at h
        simp [flds]
        exact h
      | some q' =>
        rw [q] at e
        dsimp only at e
        obtain ⟨rfl, g1, g2, g3⟩ := str_some q
        have hnext := hR [.va (.tuple ds), .no, .no]
        simp
        by_cases hm : m = 0
        · subst hm
          have hp := ha.2.1 rfl
          subst hp
          rw [if_pos (ltP_neg g1)] at e
          simp
          exact hnext ⟨rest, q', _, _, rfl, ahead_next ha, e⟩
        · have hm0 : 0 < m := by omega
          have hat : L2.atI ds ((m : Int) - 1) = some (prD p) := by
            have := atI_nat (ha.2.2 hm0)
            have e2 : ((m - 1 : Nat) : Int) = (m : Int) - 1 := by omega
            rwa [e2] at this
          simp [hm0, hat]
          refine cmp_le_pr ?_
          cases hl : ltP p.1 p.2 q'.1 q'.2 with
          | true =>
            rw [hl, if_pos rfl] at e
            simp
            exact hnext ⟨rest, q', _, _, rfl, ahead_next ha, e⟩
          | false =>
            rw [hl, if_neg (by simp)] at e
            rw [e] at h
            simp [flds]
            exact h
  | dict kvs => exact absurd (sh_opq hs) (by simp)
  | _ =>
    simp [fn_lets_asks, flds]
    exact h
theorem law_checked {n : Nat} {d : D} {Q : QD} {E : Ex} (hs : sh d) (hl : ∀ ds, d = .tuple ds → ds.length ≤ 1000) (h : Q (chkA (letsA d))) : W (n + 4) f__law_checked [d] Q E := by
  refine wC_of (fn := fn__law_checked) rfl rfl ?_
  cases d with
  | tuple ds =>
    have hl := hl ds rfl
    simp [fn__law_checked]
    refine ⟨by omega, ?_⟩
    refine frW_upto (lo := 0) (m := ds.length) (I := fun m ρ => ∃ (p : Pr2) (s1 : Sl), ρ = [.va (.tuple ds), s1] ∧ Ahead ds (ds.drop m) m p ∧ letsA (.tuple ds) = runA p m (ds.drop m)) ?_ ?_ _ 0 _ (by omega) ⟨(-1, -1), .no, rfl, ⟨⟨[], rfl, rfl⟩, fun _ => rfl, fun z => absurd z (by decide)⟩, rfl⟩
    · rintro ρ ⟨p, s1, rfl, _, e⟩
      rw [List.drop_length] at e
      rw [e] at h
      simp
      exact h
    · rintro m ρ R hm ⟨p, s1, rfl, ha, e⟩ hR
      have hat : L2.atI ds (m : Int) = some ds[m] := atI_nat (by simp [hm])
      have hd := sh_mem hs (List.getElem_mem hm)
      rw [List.drop_eq_getElem_cons hm] at e ha
      simp only [runA] at e
      simp [hat]
      refine law_stretch hd ?_
      cases q : str? ds[m] with
      | none =>
        rw [q] at e
        rw [e] at h
        simp
        exact h
      | some q' =>
        rw [q] at e
        dsimp only at e
        obtain ⟨ed, g1, g2, g3⟩ := str_some q
        rw [ed] at ha
        have hnext := hR [.va (.tuple ds), .no]
        simp
        by_cases hm0 : m = 0
        · subst hm0
          have hp := ha.2.1 rfl
          subst hp
          rw [if_pos (ltP_neg g1)] at e
          simp
          exact hnext ⟨q', _, rfl, ahead_next ha, e⟩
        · have hm1 : 0 < m := by omega
          have hat1 : L2.atI ds ((m : Int) - 1) = some (prD p) := by
            have := atI_nat (ha.2.2 hm1)
            have e2 : ((m - 1 : Nat) : Int) = (m : Int) - 1 := by omega
            rwa [e2] at this
          simp [hm1, hat1, hat, ed]
          refine cmp_lt_pr ?_
          cases hl : ltP p.1 p.2 q'.1 q'.2 with
          | true =>
            rw [hl, if_pos rfl] at e
            simp
            exact hnext ⟨q', _, rfl, ahead_next ha, e⟩
          | false =>
            rw [hl, if_neg (by simp)] at e
            rw [e] at h
            simp
            exact h
  | dict kvs => exact absurd (sh_opq hs) (by simp)
  | _ =>
    simp [fn__law_checked]
    exact h
theorem noL_chkA {r : AR} : noL (chkA r) = true := by cases r <;> rfl
theorem short_chkA {r : AR} : short 4 (chkA r) := by
  cases r with
  | ok n =>
    exact short_tup (by simp) fun x hx => by
      simp at hx
      rcases hx with rfl | rfl
      · exact short_str
      · exact short_int
  | bad w a =>
    exact short_tup (by simp) fun x hx => by
      simp at hx
      rcases hx with rfl | rfl | rfl | rfl
      · exact short_str
      · exact short_str
      · exact short_int
      · exact short_bool
/-! faults, by all pairs -/
def wh (p q : Pr2) : Bool := decide (p.1 ≤ q.1 - 1 ∧ q.2 < p.2)
theorem find_congr {α : Type} {f g : α → Bool} : ∀ {l : List α}, (∀ x ∈ l, f x = g x) → l.find? f = l.find? g
  | [], _ => rfl
  | x :: l, h => by
    rw [List.find?_cons, List.find?_cons, h x List.mem_cons_self, find_congr fun y hy => h y (List.mem_cons_of_mem _ hy)]
theorem law_fault {n : Nat} {ps : List Pr2} {Q : QD} {E : Ex} (hu : Up ps) (h : Q (faultD (fault ps))) : W (n + 1) f__law_fault [.tuple (ps.map prD)] Q E := by
  refine wC_of (fn := fn__law_fault) rfl rfl ?_
  simp [fn__law_fault, frzIt, nms, nmsL]
  refine frW_ind (I := fun es ρ => ∃ (pre qs : List Pr2) (s1 s2 s3 : Sl), es = qs.map prD ∧ ρ = [.va (.tuple (ps.map prD)), s1, s2, s3] ∧ ps = pre ++ qs ∧ fault ps = fault qs) ?_ ?_ _ _ ⟨[], ps, .no, .no, .no, rfl, rfl, rfl, rfl⟩
  · rintro ρ ⟨pre, qs, s1, s2, s3, he, rfl, _, e⟩
    have : qs = [] := by cases qs <;> first | rfl | cases he
    subst this
    rw [e] at h
    simpa [fault, faultD] using h
  · rintro x es ρ R ⟨pre, qs, s1, s2, s3, he, rfl, hpre, e⟩ hR
    cases qs with
    | nil => cases he
    | cons p qs =>
      cases he
      simp only [fault] at e
      have hpair := List.pairwise_append.mp (show Up (pre ++ p :: qs) by rw [← hpre]; exact hu)
      have h1 : ∀ q ∈ pre, lt2 q p := fun q hq => hpair.2.2 q hq p List.mem_cons_self
      have h2 : ∀ q ∈ qs, lt2 p q := (List.pairwise_cons.mp hpair.2.1).1
      have hfind : ps.find? (wh p) = qs.find? fun q => decide (q.2 < p.2) := by
        rw [hpre, List.find?_append]
        have hn : pre.find? (wh p) = none := List.find?_eq_none.mpr fun q hq => by
          have := h1 q hq
          unfold lt2 at this
          unfold wh
          simp only [decide_eq_true_eq]
          omega
        rw [hn, Option.none_or, List.find?_cons]
        have hp : wh p p = false := by simp [wh]
        rw [hp]
        refine find_congr fun q hq => ?_
        have := h2 q hq
        unfold lt2 at this
        unfold wh
        simp only [decide_eq_decide]
        omega
      rw [← hfind] at e
      simp [nms, nmsL, frzIt]
      refine frW_ind (I := fun es ρ => ∃ (rs : List Pr2) (s2 s3 : Sl), es = rs.map prD ∧ ρ = [.va (.tuple (ps.map prD)), .va (prD p), s2, s3] ∧ ps.find? (wh p) = rs.find? (wh p)) ?_ ?_ _ _ ⟨ps, .no, .no, rfl, rfl, rfl⟩
      · rintro ρ ⟨rs, s2, s3, he, rfl, ef⟩
        have : rs = [] := by cases rs <;> first | rfl | cases he
        subst this
        rw [ef] at e
        simp
        exact hR _ ⟨pre ++ [p], qs, _, _, _, rfl, rfl, by rw [hpre]; simp, by simpa using e⟩
      · rintro x2 es2 ρ2 R2 ⟨rs, s2, s3, he, rfl, ef⟩ hR2
        cases rs with
        | nil => cases he
        | cons r rs =>
          cases he
          have e1 : prD r = .tuple [.int r.1, .int r.2] := rfl
          have e2 : prD p = .tuple [.int p.1, .int p.2] := rfl
          simp [e1, e2]
          rw [List.find?_cons] at ef
          by_cases c1 : p.1 ≤ r.1 - 1
          · by_cases c2 : r.2 < p.2
            · have hw : wh p r = true := by simp [wh, c1, c2]
              rw [hw] at ef
              dsimp only at ef
              rw [ef] at e
              rw [e] at h
              simp [c1, c2]
              exact h
            · have hw : wh p r = false := by simp [wh, c2]
              rw [hw] at ef
              simp [c1, c2]
              exact hR2 _ ⟨rs, _, _, rfl, rfl, ef⟩
          · have hw : wh p r = false := by simp [wh, c1]
            rw [hw] at ef
            simp [c1]
            exact hR2 _ ⟨rs, _, _, rfl, rfl, ef⟩
theorem ne_po : (Str.ofString "paper" = Str.ofString "ok") = False := by simp; decide
theorem law_queue {n : Nat} {d : D} {Q : QD} {E : Ex} (hs : sh d) (hl : ∀ ds, d = .tuple ds → ds.length ≤ 1000) (h : Q (.bool (isQueue d))) : W (n + 5) f__law_queue [d] Q E := by
  refine wC_of (fn := fn__law_queue) rfl rfl ?_
  simp [fn__law_queue]
  refine law_checked hs hl ?_
  have hg := letsA_good d
  rw [isAsks_eq] at hg
  unfold isQueue at h
  cases e : letsA d with
  | bad w a =>
    rw [e] at hg
    cases ea : asks? d with
    | some ps => rw [ea] at hg; cases hg
    | none =>
      rw [ea] at h
      simp [chkA, ne_po]
      exact h
  | ok m =>
    rw [e] at hg
    cases ea : asks? d with
    | none => rw [ea] at hg; cases hg
    | some ps =>
      rw [ea] at h
      obtain ⟨rfl, g, hi⟩ := asks_some ea
      simp [chkA]
      refine law_fault (incr_up hi).2 ?_
      rw [isNon_fault]
      rw [← goEnds_fault g]
      exact h
end K01.P

set_option maxHeartbeats 1000000
namespace K01.P
open PySem Uq
/-! common divisors -/
theorem fmod_nat (a b : Nat) : (a : Int).fmod (b : Int) = ((a % b : Nat) : Int) := by
  rw [Int.fmod_eq_emod_of_nonneg _ (by omega)]
  rfl
theorem divisor {n : Nat} {a b : Nat} {Q : QD} {E : Ex} (h : Q (.int (Nat.gcd a b))) : W (n + 1) f__divisor [.int a, .int b] Q E := by
  refine wC_of (fn := fn__divisor) rfl rfl ?_
  have turns : ∀ (m : Nat) (a b : Nat), b < m → (∀ k : K, (∀ g : Nat, g = Nat.gcd a b → k.nx [.va (.int g), .va (.int 0)]) →
      whW (fun ρ q e => wT ⟨wC T sub flds n, sub, flds⟩ (.cmp .gt (.var 1) (.int 0)) ρ q fun c fs => e c fs ρ) (wSs ⟨wC T sub flds n, sub, flds⟩ [.par 0 1 (.var 1) (.bin .mod (.var 0) (.var 1))]) k m [.va (.int a), .va (.int b)]) := by
    intro m
    induction m with
    | zero => intro a b h; exact absurd h (by omega)
    | succ m ih =>
      intro a b hb k hk
      unfold whW
      by_cases h0 : b = 0
      · subst h0
        simp
        exact hk a (by simp)
      · have h1 : 0 < b := by omega
        have e0 : ((b : Nat) : Int) ≠ 0 := by omega
        have hm : b ≠ 0 := h0
        simp [h1, e0, hm, nms, nmsL]
        rw [fmod_nat]
        refine ih b (a % b) (by have := Nat.mod_lt a h1; omega) k fun g hg => hk g (by rw [hg, Nat.gcd_comm b, ← Nat.gcd_rec, Nat.gcd_comm])
  simp [fn__divisor, wS_wh]
  refine ⟨b + 1, turns (b + 1) a b (by omega) _ fun g hg => ?_⟩
  subst hg
  simp
  exact h
theorem abs_nat (a : Int) : (if a < 0 then -a else a) = (a.natAbs : Int) := by split <;> omega
/-- where Euclid's pair stands behind m turns -/
def EuAt (B : Nat) (m x y : Nat) : Prop := (∃ t, m = 2 * t ∧ y < 2 ^ (B - t)) ∨ (∃ t, m = 2 * t + 1 ∧ x < 2 ^ (B - t) ∧ (y < x))
theorem eu_next {B m x y : Nat} (h : EuAt B m x y) (hy : y ≠ 0) : EuAt B (m + 1) y (x % y) := by
  have hr := Nat.mod_lt x (Nat.pos_of_ne_zero hy)
  rcases h with ⟨t, rfl, h⟩ | ⟨t, rfl, h, hyx⟩
  · exact .inr ⟨t, rfl, h, hr⟩
  · refine .inl ⟨t + 1, by omega, ?_⟩
    have h2 : 2 * (x % y) < x := by
      by_cases c : 2 * y ≤ x
      · omega
      · have : x % y = x - y := by
          rw [Nat.mod_eq_sub_mod (by omega), Nat.mod_eq_of_lt (by omega)]
        omega
    by_cases hB : t < B
    · have e : B - t = (B - (t + 1)) + 1 := by omega
      rw [e, Nat.pow_succ] at h
      omega
    · have e : B - t = 0 := by omega
      rw [e] at h
      omega
theorem eu_end {B x y : Nat} (h : EuAt B (2 * B + 2) x y) : y = 0 := by
  rcases h with ⟨t, e, h⟩ | ⟨t, e, _⟩
  · have : B - t = 0 := by omega
    rw [this] at h
    omega
  · omega
theorem law_divisor {n : Nat} {a b : Int} {Q : QD} {E : Ex} (ha : a.natAbs < 2 ^ 1000) (hb : b.natAbs < 2 ^ 1000) (h : Q (.int (Nat.gcd a.natAbs b.natAbs))) : W (n + 1) f__law_divisor [.int a, .int b] Q E := by
  refine wC_of (fn := fn__law_divisor) rfl rfl ?_
  generalize hA : a.natAbs = A at *
  generalize hBb : b.natAbs = Bb at *
  have eA := abs_nat a
  have eB := abs_nat b
  rw [hA] at eA
  rw [hBb] at eB
  have hmx : (if A < Bb then (Bb : Int) else (A : Int)) = ((max A Bb : Nat) : Int) := by split <;> omega
  have hbits : Builtin.Int.intBits ((max A Bb : Nat) : Int) ≤ 1000 := PySem.intBits_le_iff.mpr (by show max A Bb < _; omega)
  have hlt : max A Bb < 2 ^ Builtin.Int.intBits ((max A Bb : Nat) : Int) := by
    have := (PySem.intBits_le_iff (x := ((max A Bb : Nat) : Int))).mp (Nat.le_refl _)
    simpa using this
  simp [fn__law_divisor, noLs_ints, eA, eB]
  rw [hmx]
  generalize Builtin.Int.intBits ((max A Bb : Nat) : Int) = B at hbits hlt
  refine ⟨mul_l (by decide) (by decide), by omega, ?_⟩
  have e2 : (2 * (B : Int) + 2).toNat = 2 * B + 2 := by omega
  rw [e2]
  have fin : ∀ g : Nat, g = Nat.gcd A Bb → Q (.int g) := fun g hg => by rw [hg]; exact h
  refine frW_upto (lo := 0) (m := 2 * B + 2) (I := fun m ρ => ∃ (x y : Nat) (s3 : Sl), ρ = [.va (.int a), .va (.int b), .ol [.int x, .int y], s3] ∧ EuAt B m x y ∧ Nat.gcd x y = Nat.gcd A Bb) ?_ ?_ _ 0 _ (by omega) ⟨A, Bb, .no, rfl, .inl ⟨0, rfl, by rw [Nat.sub_zero]; exact Nat.lt_of_le_of_lt (Nat.le_max_right _ _) hlt⟩, rfl⟩
  · rintro ρ ⟨x, y, s3, rfl, he, hg⟩
    have := eu_end he
    subst this
    simp
    exact fin x (by simpa using hg)
  · rintro m ρ R hm ⟨x, y, s3, rfl, he, hg⟩ hR
    by_cases h0 : y = 0
    · subst h0
      simp
      exact fin x (by simpa using hg)
    · have e0 : ((y : Nat) : Int) ≠ 0 := by omega
      simp [h0]
      rw [fmod_nat]
      exact hR _ ⟨y, x % y, _, rfl, eu_next he h0, by rw [← hg, Nat.gcd_comm y, ← Nat.gcd_rec, Nat.gcd_comm]⟩
/-! quotients in lowest terms -/
def isQuo : D → Bool
  | .tuple [.int a, .int b] => decide (1 ≤ b) && decide (Nat.gcd a.natAbs b.natAbs = 1)
  | _ => false
theorem is_quotient {n : Nat} {d : D} {Q : QD} {E : Ex} (hs : sh d) (h : Q (.bool (isQuo d))) : W (n + 2) f_is_quotient [d] Q E := by
  refine wC_of (fn := fn_is_quotient) rfl rfl ?_
  cases d with
  | tuple xs =>
    match xs, hs, h with
    | [], hs, h => simp [fn_is_quotient]; exact h
    | [a], hs, h => simp [fn_is_quotient]; cases a <;> exact h
    | a :: b :: c :: r, hs, h =>
      have h2 : ¬ ((r.length : Int) + 1 + 1 + 1 = 2) := by omega
      simp [fn_is_quotient, h2]
      cases a <;> first | exact h | (cases b <;> exact h)
    | [a, b], hs, h =>
      have sa := sh_opq (sh_mem hs (show a ∈ [a, b] by simp))
      have sb := sh_opq (sh_mem hs (show b ∈ [a, b] by simp))
      simp [fn_is_quotient]
      refine is_integer sa ?_
      cases a with
      | int i =>
        simp [isInt]
        refine is_integer sb ?_
        cases b with
        | int j =>
          simp [isInt]
          by_cases h1 : j < 1
          · have : ¬ 1 ≤ j := by omega
            simpa [h1, isQuo, this] using h
          · have h2 : 1 ≤ j := by omega
            have ej : j = ((j.natAbs : Nat) : Int) := by omega
            simp [h1, abs_nat]
            rw [ej]
            refine divisor ?_
            simp
            rw [← ej] at *
            have e3 : (Nat.gcd i.natAbs j.natAbs : Int) = 1 ↔ Nat.gcd i.natAbs j.natAbs = 1 := by omega
            simpa [isQuo, h2, e3] using h
        | _ => simp [isInt]; exact h
      | _ => simp [isInt]; cases b <;> exact h
  | dict kvs => exact absurd (sh_opq hs) (by simp)
  | _ =>
    simp [fn_is_quotient]
    exact h
def small (d : D) : Prop := ∀ a b, d = .tuple [.int a, .int b] → a.natAbs < 2 ^ 1000 ∧ b.natAbs < 2 ^ 1000
theorem law_quotient {n : Nat} {d : D} {Q : QD} {E : Ex} (hs : sh d) (hb : small d) (h : Q (.bool (isQuo d))) : W (n + 2) f__law_quotient [d] Q E := by
  refine wC_of (fn := fn__law_quotient) rfl rfl ?_
  cases d with
  | tuple xs =>
    match xs, hs, hb, h with
    | [], hs, hb, h => simp [fn__law_quotient]; exact h
    | [a], hs, hb, h => simp [fn__law_quotient]; cases a <;> exact h
    | a :: b :: c :: r, hs, hb, h =>
      have h2 : ¬ ((r.length : Int) + 1 + 1 + 1 = 2) := by omega
      simp [fn__law_quotient, h2]
      cases a <;> first | exact h | (cases b <;> exact h)
    | [a, b], hs, hb, h =>
      have sa := sh_opq (sh_mem hs (show a ∈ [a, b] by simp))
      have sb := sh_opq (sh_mem hs (show b ∈ [a, b] by simp))
      simp [fn__law_quotient]
      refine law_int sa ?_
      cases a with
      | int i =>
        simp [isInt]
        refine law_int sb ?_
        cases b with
        | int j =>
          obtain ⟨b1, b2⟩ := hb i j rfl
          simp [isInt]
          by_cases h1 : 1 ≤ j
          · simp [h1]
            refine law_divisor b1 b2 ?_
            have e3 : (Nat.gcd i.natAbs j.natAbs : Int) = 1 ↔ Nat.gcd i.natAbs j.natAbs = 1 := by omega
            simpa [isQuo, h1, e3] using h
          · simpa [h1, isQuo] using h
        | _ => simp [isInt]; exact h
      | _ => simp [isInt]; cases b <;> exact h
  | dict kvs => exact absurd (sh_opq hs) (by simp)
  | _ =>
    simp [fn__law_quotient]
    exact h
end K01.P

set_option maxHeartbeats 1000000
namespace K01.P
open PySem Uq
/-! sizes -/
def Bnd (k : Nat) (a : Int) : Prop := a.natAbs < 2 ^ k
theorem Bnd.le {j k : Nat} {a : Int} (h : Bnd j a) (hk : j ≤ k) : Bnd k a := Nat.lt_of_lt_of_le h (Nat.pow_le_pow_right (by decide) hk)
theorem Bnd.mul {j k : Nat} {a b : Int} (h : Bnd j a) (h' : Bnd k b) : Bnd (j + k) (a * b) := by
  unfold Bnd at *
  rw [Int.natAbs_mul, Nat.pow_add]
  exact Nat.mul_lt_mul'' h h'
theorem Bnd.add {k : Nat} {a b : Int} (h : Bnd k a) (h' : Bnd k b) : Bnd (k + 1) (a + b) := by
  unfold Bnd at *
  rw [Nat.pow_succ]
  have := Int.natAbs_add_le a b
  omega
theorem Bnd.neg {k : Nat} {a : Int} (h : Bnd k a) : Bnd k (-a) := by
  unfold Bnd at *
  rwa [Int.natAbs_neg]
theorem Bnd.sub {k : Nat} {a b : Int} (h : Bnd k a) (h' : Bnd k b) : Bnd (k + 1) (a - b) := by
  rw [Int.sub_eq_add_neg]
  exact h.add h'.neg
theorem log2_bnd {k : Nat} {a : Int} (h : Bnd k a) : a.natAbs.log2 ≤ k := by
  unfold Bnd at h
  by_cases h0 : a.natAbs = 0
  · rw [h0]; simp
  · have := (Nat.log2_lt h0).mpr h
    omega
theorem mul_bnd {j k : Nat} {a b : Int} (h : Bnd j a) (h' : Bnd k b) (hk : j + k < 1000000) : MulOk a b := .inr (.inr (by
  have := log2_bnd h
  have := log2_bnd h'
  omega))
/-! lowest terms -/
def sgn (b : Int) (g : Nat) : Int := if b < 0 then -(g : Int) else g
def lowP (a b : Int) : Int × Int := (a.fdiv (sgn b (Nat.gcd a.natAbs b.natAbs)), b.fdiv (sgn b (Nat.gcd a.natAbs b.natAbs)))
theorem gcd_pos {a b : Int} (hb : b ≠ 0) : 0 < Nat.gcd a.natAbs b.natAbs := Nat.gcd_pos_of_pos_right _ (by omega)
theorem sgn_ne {a b : Int} (hb : b ≠ 0) : sgn b (Nat.gcd a.natAbs b.natAbs) ≠ 0 := by
  have := gcd_pos (a := a) hb
  unfold sgn
  split <;> omega
theorem sgn_dvd_l {a b : Int} : sgn b (Nat.gcd a.natAbs b.natAbs) ∣ a := by
  have h : ((Nat.gcd a.natAbs b.natAbs : Nat) : Int) ∣ a := Int.dvd_natAbs.mp (Int.ofNat_dvd.mpr (Nat.gcd_dvd_left _ _))
  unfold sgn
  split
  · exact (Int.neg_dvd).mpr h
  · exact h
theorem sgn_dvd_r {a b : Int} : sgn b (Nat.gcd a.natAbs b.natAbs) ∣ b := by
  have h : ((Nat.gcd a.natAbs b.natAbs : Nat) : Int) ∣ b := Int.dvd_natAbs.mp (Int.ofNat_dvd.mpr (Nat.gcd_dvd_right _ _))
  unfold sgn
  split
  · exact (Int.neg_dvd).mpr h
  · exact h
theorem low_mul {a b : Int} : (lowP a b).1 * sgn b (Nat.gcd a.natAbs b.natAbs) = a ∧ (lowP a b).2 * sgn b (Nat.gcd a.natAbs b.natAbs) = b :=
  ⟨Int.fdiv_mul_cancel_of_dvd sgn_dvd_l, Int.fdiv_mul_cancel_of_dvd sgn_dvd_r⟩
theorem low_cross {a b : Int} : (lowP a b).1 * b = a * (lowP a b).2 := by
  obtain ⟨h1, h2⟩ := low_mul (a := a) (b := b)
  generalize sgn b (Nat.gcd a.natAbs b.natAbs) = s at *
  generalize (lowP a b).1 = x at *
  generalize (lowP a b).2 = y at *
  rw [← h1, ← h2, Int.mul_assoc, Int.mul_comm s y]
theorem low_pos {a b : Int} (hb : b ≠ 0) : 1 ≤ (lowP a b).2 := by
  have h2 := (low_mul (a := a) (b := b)).2
  have hg := gcd_pos (a := a) hb
  generalize hy : (lowP a b).2 = y at *
  unfold sgn at h2
  split at h2
  · rename_i hn
    rcases Int.lt_or_le y 1 with h | h
    · have : 0 ≤ y * -(Nat.gcd a.natAbs b.natAbs : Int) := by
        rw [Int.mul_neg]
        have : y * (Nat.gcd a.natAbs b.natAbs : Int) ≤ 0 := Int.mul_nonpos_of_nonpos_of_nonneg (by omega) (by omega)
        omega
      omega
    · exact h
  · rename_i hn
    rcases Int.lt_or_le y 1 with h | h
    · have : y * (Nat.gcd a.natAbs b.natAbs : Int) ≤ 0 := Int.mul_nonpos_of_nonpos_of_nonneg (by omega) (by omega)
      omega
    · exact h
theorem sgn_abs {b : Int} {g : Nat} : (sgn b g).natAbs = g := by
  unfold sgn
  split <;> omega
theorem low_gcd {a b : Int} (hb : b ≠ 0) : Nat.gcd (lowP a b).1.natAbs (lowP a b).2.natAbs = 1 := by
  obtain ⟨h1, h2⟩ := low_mul (a := a) (b := b)
  have hg := gcd_pos (a := a) hb
  have e1 : (lowP a b).1.natAbs * Nat.gcd a.natAbs b.natAbs = a.natAbs := by
    have := congrArg Int.natAbs h1
    rwa [Int.natAbs_mul, sgn_abs] at this
  have e2 : (lowP a b).2.natAbs * Nat.gcd a.natAbs b.natAbs = b.natAbs := by
    have := congrArg Int.natAbs h2
    rwa [Int.natAbs_mul, sgn_abs] at this
  have := Nat.gcd_mul_right (lowP a b).1.natAbs (Nat.gcd a.natAbs b.natAbs) (lowP a b).2.natAbs
  rw [e1, e2] at this
  exact Nat.eq_of_mul_eq_mul_right hg (by rw [Nat.one_mul]; exact this.symm)
theorem low_quo {a b : Int} (hb : b ≠ 0) : isQuo (prD (lowP a b)) = true := by
  have h1 := low_pos (a := a) hb
  have h2 := low_gcd (a := a) hb
  simp only [prD, pr, isQuo, Bool.and_eq_true, decide_eq_true_eq]
  exact ⟨h1, h2⟩
theorem low_bnd {j k : Nat} {a b : Int} (ha : Bnd j a) (h : Bnd k b) (hb : b ≠ 0) : Bnd j (lowP a b).1 ∧ Bnd k (lowP a b).2 := by
  obtain ⟨h1, h2⟩ := low_mul (a := a) (b := b)
  have hg := gcd_pos (a := a) hb
  have e1 : (lowP a b).1.natAbs * Nat.gcd a.natAbs b.natAbs = a.natAbs := by
    have := congrArg Int.natAbs h1
    rwa [Int.natAbs_mul, sgn_abs] at this
  have e2 : (lowP a b).2.natAbs * Nat.gcd a.natAbs b.natAbs = b.natAbs := by
    have := congrArg Int.natAbs h2
    rwa [Int.natAbs_mul, sgn_abs] at this
  unfold Bnd at *
  have l1 := Nat.le_mul_of_pos_right (lowP a b).1.natAbs hg
  have l2 := Nat.le_mul_of_pos_right (lowP a b).2.natAbs hg
  omega
theorem log_gcd {k : Nat} {a b : Int} (h : Bnd k b) (hk : k < 9000) (hb : b ≠ 0) : (sgn b (Nat.gcd a.natAbs b.natAbs)).natAbs.log2 < 9000 := by
  rw [sgn_abs]
  have hle : Nat.gcd a.natAbs b.natAbs ≤ b.natAbs := Nat.gcd_le_right _ (by omega)
  have h2 : Bnd k (Nat.gcd a.natAbs b.natAbs : Int) := by
    unfold Bnd at *
    show Nat.gcd a.natAbs b.natAbs < _
    omega
  have := log2_bnd h2
  simp only [Int.natAbs_natCast] at this
  omega
theorem lowest {n k : Nat} {a b : Int} {Q : QD} {E : Ex} (hb : b ≠ 0) (hk : Bnd k b) (hk2 : k < 9000) (h : Q (prD (lowP a b))) : W (n + 2) f__lowest [.int a, .int b] Q E := by
  refine wC_of (fn := fn__lowest) rfl rfl ?_
  simp [fn__lowest, abs_nat]
  refine divisor ?_
  have h1 := sgn_ne (a := a) hb
  have h2 := log_gcd (a := a) hk hk2 hb
  simp
  unfold sgn at h1 h2
  simp only [prD, pr, lowP, sgn] at h
  by_cases hn : b < 0
  · rw [if_pos hn] at h1 h2 h
    simp [hn]
    exact ⟨⟨by first | omega | (simp at h1 ⊢; omega), by simpa using h2⟩, h⟩
  · rw [if_neg hn] at h1 h2 h
    simp [hn]
    exact ⟨⟨by first | omega | (simp at h1 ⊢; omega), by simpa using h2⟩, h⟩
end K01.P

set_option maxHeartbeats 1000000
namespace K01.P
open PySem Uq
/-- what quotient_of wants -/
def isNz : D → Bool
  | .int i => decide (i ≠ 0)
  | _ => false
theorem quotient_of {n : Nat} {a b : D} {Q : QD} {E : Ex} (ha : sh a) (hb : sh b) (h1 : isInt a = false → E 4 [.str "top", .int (-1)]) (h2 : isInt a = true → isNz b = false → E 4 [.str "bottom", .int (-1)])
    (h : ∀ i j : Int, a = .int i → b = .int j → j ≠ 0 → Bnd 8000 j ∧ Q (prD (lowP i j))) : W (n + 3) f_quotient_of [a, b] Q E := by
  refine wC_of (fn := fn_quotient_of) rfl rfl ?_
  simp [fn_quotient_of]
  refine is_integer (sh_opq ha) ?_
  cases a with
  | int i =>
    simp [isInt]
    refine is_integer (sh_opq hb) ?_
    cases b with
    | int j =>
      by_cases h0 : j = 0
      · have := h2 rfl (by simp [isNz, h0])
        simpa [isInt, h0, flds] using this
      · obtain ⟨hk, hq⟩ := h i j rfl rfl h0
        simp [isInt, h0]
        exact lowest h0 hk (by decide) hq
    | _ =>
      have := h2 rfl rfl
      simpa [isInt, flds] using this
  | _ =>
    have := h1 rfl
    simpa [isInt, flds] using this
theorem both_quotients {n : Nat} {a b : D} {Q : QD} {E : Ex} (ha : sh a) (hb : sh b) (h1 : isQuo a = false → E 4 [.str "one", .int (-1)]) (h2 : isQuo a = true → isQuo b = false → E 4 [.str "other", .int (-1)]) (h : isQuo a = true → isQuo b = true → Q .none) :
    W (n + 3) f__both_quotients [a, b] Q E := by
  refine wC_of (fn := fn__both_quotients) rfl rfl ?_
  simp [fn__both_quotients]
  refine is_quotient ha ?_
  cases e1 : isQuo a with
  | false => simpa [flds] using h1 e1
  | true =>
    simp
    refine is_quotient hb ?_
    cases e2 : isQuo b with
    | false => simpa [flds] using h2 e1 e2
    | true => simpa using h e1 e2
theorem quo_some {d : D} (h : isQuo d = true) : ∃ p : Pr2, d = prD p ∧ 1 ≤ p.2 := by
  unfold isQuo at h
  split at h
  · rename_i a b
    simp only [Bool.and_eq_true, decide_eq_true_eq] at h
    exact ⟨(a, b), rfl, h.1⟩
  · cases h
/-- what a sum wants of its parameters -/
structure Two (a b : D) (E : Ex) : Prop where
  sa : sh a
  sb : sh b
  no1 : isQuo a = false → E 4 [.str "one", .int (-1)]
  no2 : isQuo a = true → isQuo b = false → E 4 [.str "other", .int (-1)]
def Fine (p q : Pr2) : Prop := (Bnd 200 p.1 ∧ Bnd 200 p.2 ∧ Bnd 200 q.1 ∧ Bnd 200 q.2) ∧ 1 ≤ p.2 ∧ 1 ≤ q.2
theorem plus {n : Nat} {a b : D} {Q : QD} {E : Ex} (t : Two a b E) (h : ∀ p q : Pr2, a = prD p → b = prD q → isQuo a = true → isQuo b = true → Fine p q ∧ Q (prD (lowP (p.1 * q.2 + q.1 * p.2) (p.2 * q.2)))) : W (n + 4) f_plus [a, b] Q E := by
  refine wC_of (fn := fn_plus) rfl rfl ?_
  simp [fn_plus]
  refine both_quotients t.sa t.sb t.no1 t.no2 fun h1 h2 => ?_
  obtain ⟨p, rfl, _⟩ := quo_some h1
  obtain ⟨q, rfl, _⟩ := quo_some h2
  obtain ⟨⟨⟨b1, b2, b3, b4⟩, g1, g2⟩, hq⟩ := h p q rfl rfl h1 h2
  have e1 : prD p = .tuple [.int p.1, .int p.2] := rfl
  have e2 : prD q = .tuple [.int q.1, .int q.2] := rfl
  have ne : p.2 * q.2 ≠ 0 := Int.mul_ne_zero (by omega) (by omega)
  simp [e1, e2, mul_bnd b1 b4 (by decide), mul_bnd b3 b2 (by decide), mul_bnd b2 b4 (by decide)]
  exact lowest ne ((b2.mul b4).le (show 400 ≤ 8000 by decide)) (by decide) hq
theorem minus {n : Nat} {a b : D} {Q : QD} {E : Ex} (t : Two a b E) (h : ∀ p q : Pr2, a = prD p → b = prD q → isQuo a = true → isQuo b = true → Fine p q ∧ Q (prD (lowP (p.1 * q.2 - q.1 * p.2) (p.2 * q.2)))) : W (n + 4) f_minus [a, b] Q E := by
  refine wC_of (fn := fn_minus) rfl rfl ?_
  simp [fn_minus]
  refine both_quotients t.sa t.sb t.no1 t.no2 fun h1 h2 => ?_
  obtain ⟨p, rfl, _⟩ := quo_some h1
  obtain ⟨q, rfl, _⟩ := quo_some h2
  obtain ⟨⟨⟨b1, b2, b3, b4⟩, g1, g2⟩, hq⟩ := h p q rfl rfl h1 h2
  have e1 : prD p = .tuple [.int p.1, .int p.2] := rfl
  have e2 : prD q = .tuple [.int q.1, .int q.2] := rfl
  have ne : p.2 * q.2 ≠ 0 := Int.mul_ne_zero (by omega) (by omega)
  simp [e1, e2, mul_bnd b1 b4 (by decide), mul_bnd b3 b2 (by decide), mul_bnd b2 b4 (by decide)]
  exact lowest ne ((b2.mul b4).le (show 400 ≤ 8000 by decide)) (by decide) hq
theorem times {n : Nat} {a b : D} {Q : QD} {E : Ex} (t : Two a b E) (h : ∀ p q : Pr2, a = prD p → b = prD q → isQuo a = true → isQuo b = true → Fine p q ∧ Q (prD (lowP (p.1 * q.1) (p.2 * q.2)))) : W (n + 4) f_times [a, b] Q E := by
  refine wC_of (fn := fn_times) rfl rfl ?_
  simp [fn_times]
  refine both_quotients t.sa t.sb t.no1 t.no2 fun h1 h2 => ?_
  obtain ⟨p, rfl, _⟩ := quo_some h1
  obtain ⟨q, rfl, _⟩ := quo_some h2
  obtain ⟨⟨⟨b1, b2, b3, b4⟩, g1, g2⟩, hq⟩ := h p q rfl rfl h1 h2
  have e1 : prD p = .tuple [.int p.1, .int p.2] := rfl
  have e2 : prD q = .tuple [.int q.1, .int q.2] := rfl
  have ne : p.2 * q.2 ≠ 0 := Int.mul_ne_zero (by omega) (by omega)
  simp [e1, e2, mul_bnd b1 b3 (by decide), mul_bnd b2 b4 (by decide)]
  exact lowest ne ((b2.mul b4).le (show 400 ≤ 8000 by decide)) (by decide) hq
theorem less {n : Nat} {a b : D} {Q : QD} {E : Ex} (t : Two a b E) (h : ∀ p q : Pr2, a = prD p → b = prD q → isQuo a = true → isQuo b = true → Fine p q ∧ Q (.bool (decide (p.1 * q.2 < q.1 * p.2)))) : W (n + 4) f_less [a, b] Q E := by
  refine wC_of (fn := fn_less) rfl rfl ?_
  simp [fn_less]
  refine both_quotients t.sa t.sb t.no1 t.no2 fun h1 h2 => ?_
  obtain ⟨p, rfl, _⟩ := quo_some h1
  obtain ⟨q, rfl, _⟩ := quo_some h2
  obtain ⟨⟨⟨b1, b2, b3, b4⟩, g1, g2⟩, hq⟩ := h p q rfl rfl h1 h2
  have e1 : prD p = .tuple [.int p.1, .int p.2] := rfl
  have e2 : prD q = .tuple [.int q.1, .int q.2] := rfl
  simp [e1, e2, mul_bnd b1 b4 (by decide), mul_bnd b3 b2 (by decide)]
  exact hq
/-! the law's side -/
theorem law_lowest {n : Nat} {p : Pr2} {Q : QD} {E : Ex} (h1 : Bnd 900 p.1) (h2 : Bnd 900 p.2) (h0 : p.2 ≠ 0) (h : Q (prD (lowP p.1 p.2))) : W (n + 2) f__law_lowest [prD p] Q E := by
  refine wC_of (fn := fn__law_lowest) rfl rfl ?_
  have e1 : prD p = .tuple [.int p.1, .int p.2] := rfl
  simp [fn__law_lowest, e1]
  refine law_divisor (h1.le (by decide)) (h2.le (by decide)) ?_
  have z1 := sgn_ne (a := p.1) h0
  have z2 := log_gcd (a := p.1) h2 (by decide) h0
  have es : (Nat.gcd p.1.natAbs p.2.natAbs : Int) * (1 - 2 * (if p.2 < 0 then 1 else 0)) = sgn p.2 (Nat.gcd p.1.natAbs p.2.natAbs) := by
    unfold sgn
    split <;> simp
  have mo : MulOk (Nat.gcd p.1.natAbs p.2.natAbs : Int) (1 - 2 * (if p.2 < 0 then 1 else 0)) := by
    refine mul_r ?_ ?_ <;> (split <;> decide)
  have mo2 : MulOk 2 (if p.2 < 0 then 1 else 0) := mul_l (by decide) (by decide)
  simp [mo, mo2, es, z1, z2]
  exact h
theorem law_stands {n : Nat} {a b : Int} {Q : QD} {E : Ex} (hb : b ≠ 0) (h1 : Bnd 500 a) (h2 : Bnd 500 b) (h : Q (.bool true)) : W (n + 3) f__law_stands [prD (lowP a b), .int a, .int b] Q E := by
  refine wC_of (fn := fn__law_stands) rfl rfl ?_
  obtain ⟨g1, g2⟩ := low_bnd h1 h2 hb
  have e1 : prD (lowP a b) = .tuple [.int (lowP a b).1, .int (lowP a b).2] := rfl
  simp [fn__law_stands]
  refine law_quotient (shd_sh (shd_pr (k := 0)) (by decide)) (fun x y e => ?_) ?_
  · rw [e1] at e
    simp at e
    obtain ⟨rfl, rfl⟩ := e
    exact ⟨g1.le (by decide), g2.le (by decide)⟩
  · rw [low_quo hb]
    simp [e1, mul_bnd g1 h2 (by decide), mul_bnd h1 g2 (by decide), low_cross]
    exact h
end K01.P

set_option maxHeartbeats 1000000
namespace K01.P
open PySem Uq
/-! wide asks -/
def wideB (p : Pr2) : Bool := decide (2 ≤ p.2 - p.1)
def wide (ps : List Pr2) : List Pr2 := ps.filter wideB
def wideD : D → Bool
  | .tuple [.int a, .int b] => decide (2 ≤ b - a)
  | _ => false
theorem filt_wide (ps : List Pr2) : (ps.map prD).filter wideD = (wide ps).map prD := by
  unfold wide
  rw [List.filter_map]
  rfl
theorem wide_asks {n : Nat} {d : D} {Q : QD} {E : Ex} (hs : sh d) (he : asks? d = none → E 4 [.str "asks", .int (-1)]) (h : ∀ ps, asks? d = some ps → ps.length ≤ 1000 ∧ Q (.tuple ((wide ps).map prD))) : W (n + 6) f_wide_asks [d] Q E := by
  refine wC_of (fn := fn_wide_asks) rfl rfl ?_
  simp [fn_wide_asks]
  refine asks_usable hs ?_
  cases e : asks? d with
  | none => simpa using he e
  | some ps =>
    obtain ⟨hl, hq⟩ := h ps e
    obtain ⟨rfl, hg, hi⟩ := asks_some e
    simp [frzIt, tgI, nms, nmsL]
    refine lcG_filt (fun d => d) wideD _ [] (fun y hy R N hp hn => ?_) (by rw [List.length_nil, List.length_map]; exact le_size (by omega)) ?_
    · obtain ⟨p, _, rfl⟩ := List.mem_map.mp hy
      have e1 : prD p = .tuple [.int p.1, .int p.2] := rfl
      by_cases c : 2 ≤ p.2 - p.1
      · have := hp (by simp [e1, wideD, c])
        simpa [e1, c] using this
      · have := hn (by simp [e1, wideD, c])
        simpa [e1, c] using this
    · rw [filt_wide]
      simp
      exact hq
/-! the longest end -/
def endP : List Pr2 → Int
  | [] => 0
  | p :: ps => max p.2 (endP ps)
theorem endP_ge : ∀ {ps : List Pr2}, 0 ≤ endP ps ∧ ∀ p ∈ ps, p.2 ≤ endP ps
  | [] => ⟨Int.le_refl _, fun _ h => (nomatch h)⟩
  | p :: ps => by
    obtain ⟨h1, h2⟩ := endP_ge (ps := ps)
    refine ⟨by simp only [endP]; omega, fun q hq => ?_⟩
    simp only [endP]
    rcases List.mem_cons.mp hq with rfl | hq
    · omega
    · have := h2 q hq; omega
theorem endP_mem : ∀ {ps : List Pr2}, endP ps = 0 ∨ ∃ p ∈ ps, p.2 = endP ps
  | [] => .inl rfl
  | p :: ps => by
    simp only [endP]
    rcases Int.le_total p.2 (endP ps) with h | h
    · rw [Int.max_eq_right h]
      rcases endP_mem (ps := ps) with z | ⟨q, hq, z⟩
      · exact .inl z
      · exact .inr ⟨q, List.mem_cons_of_mem _ hq, z⟩
    · rw [Int.max_eq_left h]
      exact .inr ⟨p, List.mem_cons_self, rfl⟩
theorem endP_uniq {ps : List Pr2} {m : Int} (hg : ∀ p ∈ ps, Good p) (h1 : m ∈ ps.map (·.2)) (h2 : ∀ y ∈ ps.map (·.2), y ≤ m) : m = endP ps := by
  obtain ⟨p, hp, rfl⟩ := List.mem_map.mp h1
  have g1 := endP_ge (ps := ps)
  have := g1.2 p hp
  rcases endP_mem (ps := ps) with z | ⟨q, hq, z⟩
  · have := hg p hp; unfold Good at this; omega
  · have := h2 q.2 (List.mem_map.mpr ⟨q, hq, rfl⟩); omega
def sndD : D → D
  | .tuple [_, b] => b
  | d => d
theorem longest_end {n : Nat} {d : D} {Q : QD} {E : Ex} (hs : sh d) (he : asks? d = none → E 4 [.str "asks", .int (-1)]) (h : ∀ ps, asks? d = some ps → ps.length ≤ 1000 ∧ Q (.int (endP ps))) : W (n + 6) f_longest_end [d] Q E := by
  refine wC_of (fn := fn_longest_end) rfl rfl ?_
  simp [fn_longest_end]
  refine asks_usable hs ?_
  cases e : asks? d with
  | none => simpa using he e
  | some ps =>
    obtain ⟨hl, hq⟩ := h ps e
    obtain ⟨rfl, hg, hi⟩ := asks_some e
    simp [frzIt, tgI, nms, nmsL]
    refine lcG_map sndD _ [] (fun y hy R hR => ?_) (by rw [List.length_nil, List.length_map]; exact le_size (by omega)) ?_
    · obtain ⟨p, _, rfl⟩ := List.mem_map.mp hy
      have e1 : prD p = .tuple [.int p.1, .int p.2] := rfl
      rw [e1] at hR ⊢
      simp
      exact hR
    · have e2 : (ps.map prD).map sndD = (ps.map (·.2)).map PyData.int := by rw [List.map_map, List.map_map]; rfl
      simp only [List.nil_append]
      rw [e2]
      refine ⟨ps.map (·.2), ?_, fun z => ?_, fun m m1 m2 => ?_⟩
      · have : ∀ ks : List Int, ints? (ks.map PyData.int) = some ks := fun ks => by
          induction ks with
          | nil => rfl
          | cons k ks ih => simp [ints?, ih]
        exact this _
      · have : ps = [] := List.map_eq_nil_iff.mp z
        subst this
        exact hq
      · rw [endP_uniq hg m1 m2]; exact hq
/-! clubs -/
def addL (cs : List (List Pr2)) (p : Pr2) : List (List Pr2) := match cs.getLast? with
  | some c => cs.dropLast ++ [c ++ [p]]
  | none => [[p]]
def goClubs (cs : List (List Pr2)) (en : Int) : List Pr2 → List (List Pr2)
  | [] => cs
  | p :: ps => if cs = [] ∨ en ≤ p.1 then goClubs (cs ++ [[p]]) (max en p.2) ps else goClubs (addL cs p) (max en p.2) ps
def clubs (ps : List Pr2) : List (List Pr2) := goClubs [] 0 (wide ps)
def clubD (c : List Pr2) : D := .tuple (c.map prD)
theorem ixN_last {k : Nat} : L2.ixN (k + 1) (-1) = some k := by
  unfold L2.ixN
  rw [if_neg (by omega), if_pos (by omega)]
  congr 1
  omega
theorem addL_snoc {cs : List (List Pr2)} {c : List Pr2} {p : Pr2} : addL (cs ++ [c]) p = cs ++ [c ++ [p]] := by
  unfold addL
  simp
abbrev nD (cs : List (List Pr2)) : List (List D) := cs.map (·.map prD)
def total : List (List Pr2) → Nat
  | [] => 0
  | c :: cs => c.length + 1 + total cs
theorem total_app : ∀ a b : List (List Pr2), total (a ++ b) = total a + total b
  | [], b => by simp [total]
  | c :: a, b => by rw [List.cons_append, total, total, total_app a b]; omega
theorem total_len : ∀ a : List (List Pr2), a.length ≤ total a
  | [] => by simp [total]
  | c :: a => by
    have := total_len a
    simp only [total, List.length_cons]
    omega
theorem clubs_of {n : Nat} {d : D} {Q : QD} {E : Ex} (hs : sh d) (he : asks? d = none → E 4 [.str "asks", .int (-1)]) (h : ∀ ps, asks? d = some ps → ps.length ≤ 1000 ∧ Q (.tuple ((clubs ps).map clubD))) : W (n + 7) f_clubs_of [d] Q E := by
  refine wC_of (fn := fn_clubs_of) rfl rfl ?_
  simp [fn_clubs_of]
  refine wide_asks hs he fun ps e => ?_
  obtain ⟨hl, hq⟩ := h ps e
  refine ⟨hl, ?_⟩
  have hwl : (wide ps).length ≤ 1000 := Nat.le_trans (List.length_filter_le _ _) hl
  have hq : Q (.tuple ((goClubs [] 0 (wide ps)).map clubD)) := hq
  simp [frzIt, nms, nmsL]
  generalize wide ps = ws at *
  refine frW_ind (I := fun es ρ => ∃ (rest : List Pr2) (cs : List (List Pr2)) (en : Int) (s0 s3 s4 : Sl), es = rest.map prD ∧ ρ = [s0, .nl (nD cs), .va (.int en), s3, s4] ∧ goClubs cs en rest = goClubs [] 0 ws ∧ total cs + 2 * rest.length ≤ 2000) ?_ ?_ _ _ ⟨ws, [], 0, _, .no, .no, rfl, rfl, rfl, by simp only [total]; omega⟩
  · rintro ρ ⟨rest, cs, en, s0, s3, s4, hes, rfl, hgo, ht⟩
    have : rest = [] := by cases rest <;> first | rfl | cases hes
    subst this
    simp only [goClubs] at hgo
    rw [← hgo] at hq
    have := total_len cs
    simp [tgI, frzIt, nms, nmsL]
    refine lcG_map (fun d => match d with
      | .list ds => .tuple ds
      | d => d) _ [] (fun y hy R hR => ?_) (by simp; exact le_size (by omega)) ?_
    · obtain ⟨c, _, rfl⟩ := List.mem_map.mp hy
      simp
      exact hR
    · simp [List.map_map]
      have e3 : (cs.map ((fun d : D => match d with
        | .list ds => .tuple ds
        | d => d) ∘ PyData.list ∘ fun x => x.map prD)) = cs.map clubD := rfl
      first | exact hq | (simp [Function.comp_def]; exact hq)
  · rintro x es ρ R ⟨rest, cs, en, s0, s3, s4, hes, rfl, hgo, ht⟩ hR
    cases rest with
    | nil => cases hes
    | cons p rest =>
      cases hes
      simp only [goClubs] at hgo
      simp only [List.length_cons] at ht
      have e1 : prD p = .tuple [.int p.1, .int p.2] := rfl
      have hcl := total_len cs
      rcases nil_or_snoc cs with rfl | ⟨cs', c, rfl⟩
      · rw [if_pos (.inl rfl)] at hgo
        simp [e1, max_if]
        refine ⟨lt_size (by decide), 0, ixN_last, [], rfl, lt_size (by decide), ?_⟩
        exact hR _ ⟨rest, [[p]], _, _, _, _, rfl, rfl, hgo, by simp only [total, List.length_cons, List.length_nil] at ht ⊢; omega⟩
      · rw [total_app] at ht
        simp only [total] at ht
        have hne : ¬ (cs' ++ [c] = []) := by simp
        simp [e1, max_if]
        by_cases hle : en ≤ p.1
        · rw [if_pos (.inr hle)] at hgo
          rw [if_pos hle]
          have hcl' := total_len cs'
          refine ⟨lt_size (by omega), cs'.length + 1, ixN_last, [], ?_, lt_size (by decide), ?_⟩
          · rw [List.getElem?_append_right (by simp)]
            simp
          · have es : ((nD cs' ++ [c.map prD, []]).set (cs'.length + 1) ([] ++ [.tuple [.int p.1, .int p.2]])) = nD (cs' ++ [c] ++ [[p]]) := by
              rw [List.set_append_right _ _ (by simp)]
              simp [nD, prD, pr]
            rw [es]
            exact hR _ ⟨rest, _, _, _, _, _, rfl, rfl, hgo, by rw [total_app, total_app]; simp only [total, List.length_cons, List.length_nil]; omega⟩
        · rw [if_neg (fun z => z.elim hne hle), addL_snoc] at hgo
          rw [if_neg hle]
          refine ⟨cs'.length, ixN_last, c.map prD, ?_, lt_size (by simp; omega), ?_⟩
          · rw [List.getElem?_append_right (by simp)]
            simp
          · have es : ((nD cs' ++ [c.map prD]).set cs'.length (c.map prD ++ [.tuple [.int p.1, .int p.2]])) = nD (cs' ++ [c ++ [p]]) := by
              rw [List.set_append_right _ _ (by simp)]
              simp [nD, prD, pr]
            rw [es]
            exact hR _ ⟨rest, _, _, _, _, _, rfl, rfl, hgo, by rw [total_app]; simp only [total, List.length_append, List.length_cons, List.length_nil]; omega⟩
end K01.P

set_option maxHeartbeats 1000000
namespace K01.P
open PySem Uq
abbrev StI (l : List Int) : Prop := l.Pairwise (· < ·)
theorem st_uniq : ∀ {a b : List Int}, StI a → StI b → (∀ x, x ∈ a ↔ x ∈ b) → a = b
  | [], [], _, _, _ => rfl
  | [], q :: b, _, _, h => absurd ((h q).mpr List.mem_cons_self) (by simp)
  | p :: a, [], _, _, h => absurd ((h p).mp List.mem_cons_self) (by simp)
  | p :: a, q :: b, ha, hb, h => by
    have ha' := List.pairwise_cons.mp ha
    have hb' := List.pairwise_cons.mp hb
    have epq : p = q := by
      rcases List.mem_cons.mp ((h p).mp List.mem_cons_self) with e | hp
      · exact e
      · rcases List.mem_cons.mp ((h q).mpr List.mem_cons_self) with e | hq
        · exact e.symm
        · have := ha'.1 q hq
          have := hb'.1 p hp
          omega
    subst epq
    rw [st_uniq ha'.2 hb'.2 fun x => ⟨fun hx => ?_, fun hx => ?_⟩]
    · rcases List.mem_cons.mp ((h x).mp (List.mem_cons_of_mem _ hx)) with e | hx'
      · have := ha'.1 x hx; omega
      · exact hx'
    · rcases List.mem_cons.mp ((h x).mpr (List.mem_cons_of_mem _ hx)) with e | hx'
      · have := hb'.1 x hx; omega
      · exact hx'
def upI (lo : Int) (m : Nat) : List Int := (List.range m).map fun k : Nat => lo + k
theorem upI_upto (lo : Int) (m : Nat) : (upI lo m).map PyData.int = upto lo m := by
  rw [upto_map, upI, List.map_map]
  rfl
theorem upI_mem {lo x : Int} {m : Nat} : x ∈ upI lo m ↔ lo ≤ x ∧ x < lo + m := by
  unfold upI
  rw [List.mem_map]
  constructor
  · rintro ⟨k, hk, rfl⟩
    have := List.mem_range.mp hk
    omega
  · rintro ⟨h1, h2⟩
    exact ⟨(x - lo).toNat, List.mem_range.mpr (by omega), by omega⟩
theorem upI_st (lo : Int) (m : Nat) : StI (upI lo m) := by
  unfold upI StI
  rw [List.pairwise_map]
  exact List.pairwise_lt_range.imp fun {a b} h => by omega
theorem upI_len (lo : Int) (m : Nat) : (upI lo m).length = m := by simp [upI]
def startC (acc : List Int) (p : Pr2) : Int := match acc.getLast? with
  | some l => if p.1 ≤ l then l + 1 else p.1
  | none => p.1
def goCov (acc : List Int) : List Pr2 → List Int
  | [] => acc
  | p :: ps => goCov (acc ++ upI (startC acc p) (p.2 - startC acc p).toNat) ps
def cover (ps : List Pr2) (k : Int) : Bool := ps.any fun p => decide (p.1 ≤ k) && decide (k < p.2)
theorem cover_app {a b : List Pr2} {k : Int} : cover (a ++ b) k = (cover a k || cover b k) := by simp [cover]
theorem cov_inv : ∀ (rest pre : List Pr2) (acc : List Int), Up (pre ++ rest) → (∀ p ∈ pre ++ rest, Good p) → StI acc → (∀ k, k ∈ acc ↔ cover pre k = true) → StI (goCov acc rest) ∧ ∀ k, k ∈ goCov acc rest ↔ cover (pre ++ rest) k = true
  | [], pre, acc, _, _, hst, hm => ⟨hst, by simpa [goCov] using hm⟩
  | p :: rest, pre, acc, hu, hg, hst, hm => by
    have hpair := List.pairwise_append.mp hu
    have hlo : ∀ q ∈ pre, q.1 ≤ p.1 := fun q hq => by
      have := hpair.2.2 q hq p List.mem_cons_self
      unfold lt2 at this
      omega
    have gp := hg p (by simp)
    unfold Good at gp
    have key : StI (acc ++ upI (startC acc p) (p.2 - startC acc p).toNat) ∧ ∀ k, k ∈ acc ++ upI (startC acc p) (p.2 - startC acc p).toNat ↔ cover (pre ++ [p]) k = true := by
      rcases nil_or_snoc acc with rfl | ⟨a, l, rfl⟩
      · have es : startC [] p = p.1 := rfl
        rw [es, List.nil_append]
        refine ⟨upI_st _ _, fun k => ?_⟩
        have := hm k
        simp at this
        rw [upI_mem, cover_app, this]
        simp [cover]
        omega
      · have hl : l ∈ a ++ [l] := by simp
        have hmax : ∀ x ∈ a ++ [l], x ≤ l := fun x hx => by
          rcases List.mem_append.mp hx with hx | hx
          · have := (List.pairwise_append.mp hst).2.2 x hx l (by simp)
            omega
          · rw [List.mem_singleton] at hx; omega
        have hcl := (hm l).mp hl
        unfold cover at hcl
        rw [List.any_eq_true] at hcl
        obtain ⟨o, ho, hol⟩ := hcl
        simp only [Bool.and_eq_true, decide_eq_true_eq] at hol
        have hoo := hlo o ho
        have seg : ∀ k, p.1 ≤ k → k ≤ l → k ∈ a ++ [l] := fun k h1 h2 => (hm k).mpr (by
          unfold cover
          rw [List.any_eq_true]
          exact ⟨o, ho, by simp only [Bool.and_eq_true, decide_eq_true_eq]; omega⟩)
        have es : startC (a ++ [l]) p = if p.1 ≤ l then l + 1 else p.1 := by simp [startC]
        rw [es]
        have hgt : ∀ x ∈ a ++ [l], x < (if p.1 ≤ l then l + 1 else p.1) := fun x hx => by
          have := hmax x hx
          split <;> omega
        refine ⟨List.pairwise_append.mpr ⟨hst, upI_st _ _, fun x hx y hy => ?_⟩, fun k => ?_⟩
        · have h1 := hgt x hx
          have h2 := upI_mem.mp hy
          omega
        · rw [List.mem_append, upI_mem, cover_app, Bool.or_eq_true, ← hm k]
          have ec : cover [p] k = true ↔ p.1 ≤ k ∧ k < p.2 := by simp [cover]
          rw [ec]
          constructor
          · rintro (h | h)
            · exact .inl h
            · refine .inr ?_
              split at h <;> omega
          · rintro (h | h)
            · exact .inl h
            · by_cases c : p.1 ≤ l
              · by_cases c2 : k ≤ l
                · exact .inl (seg k h.1 c2)
                · refine .inr ?_
                  rw [if_pos c]
                  omega
              · refine .inr ?_
                rw [if_neg c]
                omega
    have e : pre ++ p :: rest = (pre ++ [p]) ++ rest := by simp
    rw [e] at hu hg ⊢
    exact cov_inv rest (pre ++ [p]) _ hu hg key.1 key.2
def coverL (ps : List Pr2) : List Int := (upI 0 (endP ps).toNat).filter (cover ps)
theorem cov_eq {ps : List Pr2} (hu : Up ps) (hg : ∀ p ∈ ps, Good p) : goCov [] ps = coverL ps := by
  obtain ⟨h1, h2⟩ := cov_inv ps [] [] hu hg List.Pairwise.nil (fun k => by simp [cover])
  refine st_uniq h1 (List.Pairwise.filter _ (upI_st _ _)) fun x => ?_
  rw [h2 x]
  unfold coverL
  rw [List.mem_filter, List.nil_append, upI_mem]
  constructor
  · intro h
    refine ⟨?_, h⟩
    unfold cover at h
    rw [List.any_eq_true] at h
    obtain ⟨o, ho, hol⟩ := h
    simp only [Bool.and_eq_true, decide_eq_true_eq] at hol
    have := (endP_ge (ps := ps)).2 o ho
    have := hg o ho
    unfold Good at this
    omega
  · exact fun h => h.2
theorem covered {n : Nat} {d : D} {Q : QD} {E : Ex} (hs : sh d) (he : asks? d = none → E 4 [.str "asks", .int (-1)]) (h : ∀ ps, asks? d = some ps → (ps.length ≤ 100 ∧ ∀ p ∈ ps, p.2 ≤ 1000) ∧ Q (.tuple ((coverL ps).map .int))) : W (n + 6) f_covered [d] Q E := by
  refine wC_of (fn := fn_covered) rfl rfl ?_
  simp [fn_covered]
  refine asks_usable hs ?_
  cases e : asks? d with
  | none => simpa using he e
  | some ps =>
    obtain ⟨⟨hl, hb⟩, hq⟩ := h ps e
    obtain ⟨rfl, hg, hi⟩ := asks_some e
    have hu := (incr_up hi).2
    rw [← cov_eq hu hg] at hq
    simp [frzIt, nms, nmsL]
    refine frW_ind (I := fun es ρ => ∃ (rest : List Pr2) (acc : List Int) (s2 s3 s4 : Sl), es = rest.map prD ∧ ρ = [.va (.tuple (ps.map prD)), .ol (acc.map .int), s2, s3, s4] ∧ goCov acc rest = goCov [] ps ∧ (∀ p ∈ rest, Good p ∧ p.2 ≤ 1000) ∧ acc.length + 1000 * rest.length ≤ 100000 ∧ ∀ x ∈ acc, 0 ≤ x ∧ x ≤ 1000) ?_ ?_ _ _ ⟨ps, [], .no, .no, .no, rfl, rfl, rfl, fun p hp => ⟨hg p hp, hb p hp⟩, by simp only [List.length_nil]; omega, fun _ h => (nomatch h)⟩
    · rintro ρ ⟨rest, acc, s2, s3, s4, hes, rfl, hgo, _⟩
      have : rest = [] := by cases rest <;> first | rfl | cases hes
      subst this
      simp only [goCov] at hgo
      subst hgo
      simp
      exact hq
    · rintro x es ρ R ⟨rest, acc, s2, s3, s4, hes, rfl, hgo, hgr, hlen, hacc⟩ hR
      cases rest with
      | nil => cases hes
      | cons p rest =>
        cases hes
        obtain ⟨gp, bp⟩ := hgr p List.mem_cons_self
        unfold Good at gp
        simp only [goCov] at hgo
        simp only [List.length_cons] at hlen
        have e1 : prD p = .tuple [.int p.1, .int p.2] := rfl
        have hst : 0 ≤ startC acc p ∧ startC acc p ≤ 1001 := by
          unfold startC
          split
          · rename_i l hl
            have := hacc l (List.mem_of_getLast? hl)
            split <;> omega
          · omega
        have fin : ∀ s2 s3 s4, R [.va (.tuple (ps.map prD)), .ol (acc.map .int ++ upto (startC acc p) (p.2 - startC acc p).toNat), s2, s3, s4] := fun s2 s3 s4 => by
          refine hR _ ⟨rest, acc ++ upI (startC acc p) (p.2 - startC acc p).toNat, s2, s3, s4, rfl, by rw [List.map_append, upI_upto], hgo, fun q hq => hgr q (List.mem_cons_of_mem _ hq), ?_, fun x hx => ?_⟩
          · rw [List.length_append, upI_len]
            omega
          · rcases List.mem_append.mp hx with hx | hx
            · exact hacc x hx
            · have := upI_mem.mp hx
              omega
        have hz : acc.length + (p.2 - startC acc p).toNat ≤ sizeLine := le_size (by omega)
        rcases nil_or_snoc acc with rfl | ⟨a, l, rfl⟩
        · have es : startC [] p = p.1 := rfl
          rw [es] at fin hz hst
          simp [e1, noLs_upto, upto_len]
          exact ⟨⟨by omega, by omega, by omega, by omega, by omega⟩, by simpa using hz, by simpa using fin _ _ _⟩
        · have es : startC (a ++ [l]) p = if p.1 ≤ l then l + 1 else p.1 := by simp [startC]
          have hl0 := hacc l (by simp)
          have hat : L2.atI ((a ++ [l]).map PyData.int) (-1) = some (.int l) := by rw [List.map_append]; exact atI_last
          rw [es] at fin hz hst
          have hne : (a ++ [l]).map PyData.int ≠ [] := by simp
          by_cases c : p.1 ≤ l
          · rw [if_pos c] at fin hz hst
            simp [e1, noLs_upto, upto_len, -List.map_append, hat, c]
            exact ⟨⟨by omega, by omega, by omega, by omega, by omega⟩, by simpa using hz, fin _ _ _⟩
          · rw [if_neg c] at fin hz hst
            simp [e1, noLs_upto, upto_len, -List.map_append, hat, c]
            exact ⟨⟨by omega, by omega, by omega, by omega, by omega⟩, by simpa using hz, fin _ _ _⟩
end K01.P

set_option maxHeartbeats 1000000
namespace K01.P
open PySem Uq
theorem atI_cast {ds : List D} (n : Nat) : L2.atI ds (n : Int) = ds[n]? := by
  cases h : ds[n]? with
  | some d => exact atI_nat h
  | none =>
    have hl : ds.length ≤ n := List.getElem?_eq_none_iff.mp h
    unfold L2.atI L2.ixN
    rw [if_pos (by omega), if_neg (by omega)]
    rfl
theorem at2 {ds : List D} : L2.atI ds 2 = ds[2]? := atI_cast 2
theorem at3 {ds : List D} : L2.atI ds 3 = ds[3]? := atI_cast 3
theorem at4 {ds : List D} : L2.atI ds 4 = ds[4]? := atI_cast 4
theorem at5 {ds : List D} : L2.atI ds 5 = ds[5]? := atI_cast 5
theorem at6 {ds : List D} : L2.atI ds 6 = ds[6]? := atI_cast 6
theorem at7 {ds : List D} : L2.atI ds 7 = ds[7]? := atI_cast 7
theorem at8 {ds : List D} : L2.atI ds 8 = ds[8]? := atI_cast 8
theorem at9 {ds : List D} : L2.atI ds 9 = ds[9]? := atI_cast 9
theorem at10 {ds : List D} : L2.atI ds 10 = ds[10]? := atI_cast 10
theorem at11 {ds : List D} : L2.atI ds 11 = ds[11]? := atI_cast 11
@[simp] theorem q1_0 : (Str.ofString "order_fault" = Str.ofString "lets_asks") = False := by simp; decide
@[simp] theorem q2_0 : (Str.ofString "wide_asks" = Str.ofString "lets_asks") = False := by simp; decide
@[simp] theorem q2_1 : (Str.ofString "wide_asks" = Str.ofString "order_fault") = False := by simp; decide
@[simp] theorem q3_0 : (Str.ofString "covered" = Str.ofString "lets_asks") = False := by simp; decide
@[simp] theorem q3_1 : (Str.ofString "covered" = Str.ofString "order_fault") = False := by simp; decide
@[simp] theorem q3_2 : (Str.ofString "covered" = Str.ofString "wide_asks") = False := by simp; decide
@[simp] theorem q4_0 : (Str.ofString "clubs_of" = Str.ofString "lets_asks") = False := by simp; decide
@[simp] theorem q4_1 : (Str.ofString "clubs_of" = Str.ofString "order_fault") = False := by simp; decide
@[simp] theorem q4_2 : (Str.ofString "clubs_of" = Str.ofString "wide_asks") = False := by simp; decide
@[simp] theorem q4_3 : (Str.ofString "clubs_of" = Str.ofString "covered") = False := by simp; decide
@[simp] theorem q5_0 : (Str.ofString "longest_end" = Str.ofString "lets_asks") = False := by simp; decide
@[simp] theorem q5_1 : (Str.ofString "longest_end" = Str.ofString "order_fault") = False := by simp; decide
@[simp] theorem q5_2 : (Str.ofString "longest_end" = Str.ofString "wide_asks") = False := by simp; decide
@[simp] theorem q5_3 : (Str.ofString "longest_end" = Str.ofString "covered") = False := by simp; decide
@[simp] theorem q5_4 : (Str.ofString "longest_end" = Str.ofString "clubs_of") = False := by simp; decide
@[simp] theorem q6_0 : (Str.ofString "quotient_of" = Str.ofString "lets_asks") = False := by simp; decide
@[simp] theorem q6_1 : (Str.ofString "quotient_of" = Str.ofString "order_fault") = False := by simp; decide
@[simp] theorem q6_2 : (Str.ofString "quotient_of" = Str.ofString "wide_asks") = False := by simp; decide
@[simp] theorem q6_3 : (Str.ofString "quotient_of" = Str.ofString "covered") = False := by simp; decide
@[simp] theorem q6_4 : (Str.ofString "quotient_of" = Str.ofString "clubs_of") = False := by simp; decide
@[simp] theorem q6_5 : (Str.ofString "quotient_of" = Str.ofString "longest_end") = False := by simp; decide
@[simp] theorem q7_0 : (Str.ofString "plus" = Str.ofString "lets_asks") = False := by simp; decide
@[simp] theorem q7_1 : (Str.ofString "plus" = Str.ofString "order_fault") = False := by simp; decide
@[simp] theorem q7_2 : (Str.ofString "plus" = Str.ofString "wide_asks") = False := by simp; decide
@[simp] theorem q7_3 : (Str.ofString "plus" = Str.ofString "covered") = False := by simp; decide
@[simp] theorem q7_4 : (Str.ofString "plus" = Str.ofString "clubs_of") = False := by simp; decide
@[simp] theorem q7_5 : (Str.ofString "plus" = Str.ofString "longest_end") = False := by simp; decide
@[simp] theorem q7_6 : (Str.ofString "plus" = Str.ofString "quotient_of") = False := by simp; decide
@[simp] theorem q8_0 : (Str.ofString "minus" = Str.ofString "lets_asks") = False := by simp; decide
@[simp] theorem q8_1 : (Str.ofString "minus" = Str.ofString "order_fault") = False := by simp; decide
@[simp] theorem q8_2 : (Str.ofString "minus" = Str.ofString "wide_asks") = False := by simp; decide
@[simp] theorem q8_3 : (Str.ofString "minus" = Str.ofString "covered") = False := by simp; decide
@[simp] theorem q8_4 : (Str.ofString "minus" = Str.ofString "clubs_of") = False := by simp; decide
@[simp] theorem q8_5 : (Str.ofString "minus" = Str.ofString "longest_end") = False := by simp; decide
@[simp] theorem q8_6 : (Str.ofString "minus" = Str.ofString "quotient_of") = False := by simp; decide
@[simp] theorem q8_7 : (Str.ofString "minus" = Str.ofString "plus") = False := by simp; decide
@[simp] theorem q9_0 : (Str.ofString "times" = Str.ofString "lets_asks") = False := by simp; decide
@[simp] theorem q9_1 : (Str.ofString "times" = Str.ofString "order_fault") = False := by simp; decide
@[simp] theorem q9_2 : (Str.ofString "times" = Str.ofString "wide_asks") = False := by simp; decide
@[simp] theorem q9_3 : (Str.ofString "times" = Str.ofString "covered") = False := by simp; decide
@[simp] theorem q9_4 : (Str.ofString "times" = Str.ofString "clubs_of") = False := by simp; decide
@[simp] theorem q9_5 : (Str.ofString "times" = Str.ofString "longest_end") = False := by simp; decide
@[simp] theorem q9_6 : (Str.ofString "times" = Str.ofString "quotient_of") = False := by simp; decide
@[simp] theorem q9_7 : (Str.ofString "times" = Str.ofString "plus") = False := by simp; decide
@[simp] theorem q9_8 : (Str.ofString "times" = Str.ofString "minus") = False := by simp; decide
@[simp] theorem q10_0 : (Str.ofString "less" = Str.ofString "lets_asks") = False := by simp; decide
@[simp] theorem q10_1 : (Str.ofString "less" = Str.ofString "order_fault") = False := by simp; decide
@[simp] theorem q10_2 : (Str.ofString "less" = Str.ofString "wide_asks") = False := by simp; decide
@[simp] theorem q10_3 : (Str.ofString "less" = Str.ofString "covered") = False := by simp; decide
@[simp] theorem q10_4 : (Str.ofString "less" = Str.ofString "clubs_of") = False := by simp; decide
@[simp] theorem q10_5 : (Str.ofString "less" = Str.ofString "longest_end") = False := by simp; decide
@[simp] theorem q10_6 : (Str.ofString "less" = Str.ofString "quotient_of") = False := by simp; decide
@[simp] theorem q10_7 : (Str.ofString "less" = Str.ofString "plus") = False := by simp; decide
@[simp] theorem q10_8 : (Str.ofString "less" = Str.ofString "minus") = False := by simp; decide
@[simp] theorem q10_9 : (Str.ofString "less" = Str.ofString "times") = False := by simp; decide

def firstBad (k : Nat) : List D → Option Nat
  | [] => none
  | d :: ds => match str? d with
    | none => some k
    | some _ => firstBad (k + 1) ds
theorem firstBad_rows : ∀ {ds : List D} {k : Nat}, firstBad k ds = none → ∃ ps, rows? ds = some ps
  | [], _, _ => ⟨[], rfl⟩
  | d :: ds, k, h => by
    simp only [firstBad] at h
    cases e : str? d with
    | none => rw [e] at h; cases h
    | some p =>
      rw [e] at h
      obtain ⟨ps, hps⟩ := firstBad_rows h
      exact ⟨p :: ps, by simp only [rows?, e, hps]; rfl⟩
/-- what is wanted of asks_of -/
def MQ (ds : List D) (Q : QD) (E : Ex) : Prop := match firstBad 0 ds with
  | some k => E 4 [.str "stretches", .int k]
  | none => ∀ ps, rows? ds = some ps → Q (.tuple ((line ps).map prD))
theorem sset_prsT {ps : List Pr2} {Q : QD} (hl : ps.length < 64) (hp : ∀ p ∈ ps, 0 ≤ p.1 ∧ 0 ≤ p.2) (h : Q (.list ((line ps).map prD))) : biR .sset [.tuple (ps.map prD)] Q :=
  (show biR .sset [.list (ps.map prD)] Q from sset_prs hl hp h)
theorem asks_of_w {n : Nat} {ds : List D} {Q : QD} {E : Ex} (hs : ∀ x ∈ ds, sh x) (hl : ds.length < 64) (h : MQ ds Q E) : W (n + 4) f_asks_of [.tuple ds] Q E := by
  refine wC_of (fn := fn_asks_of) rfl rfl ?_
  simp [fn_asks_of, frzIt, nms, nmsL]
  refine frW_enum (I := fun m es ρ => (∀ x ∈ es, sh x) ∧ ∃ (s1 s2 : Sl), ρ = [.va (.tuple ds), s1, s2] ∧ firstBad 0 ds = firstBad m es) ?_ ?_ ds 0 _ ⟨hs, .no, .no, rfl, rfl⟩
  · rintro m ρ ⟨_, s1, s2, rfl, e⟩
    simp only [firstBad] at e
    obtain ⟨ps, hps⟩ := firstBad_rows e
    unfold MQ at h
    rw [e] at h
    have hq := h ps hps
    clear h
    obtain ⟨rfl, g⟩ := rows_some hps
    simp
    refine sset_prsT (by simpa using hl) (fun p hp => by have := g p hp; unfold Good at this; omega) ?_
    simp
    exact hq
  · rintro m d es ρ R ⟨hok, s1, s2, rfl, e⟩ hR
    have hd := hok d List.mem_cons_self
    have rest : ∀ x ∈ es, sh x := fun x hx => hok x (List.mem_cons_of_mem _ hx)
    simp only [firstBad] at e
    simp
    refine is_stretch (sh_opq hd) (fun ds' e' x hx => by subst e'; exact sh_opq (sh_mem hd hx)) ?_
    rw [str_is]
    cases q : str? d with
    | none =>
      rw [q] at e
      unfold MQ at h
      rw [e] at h
      simp [flds]
      exact h
    | some q' =>
      rw [q] at e
      simp
      exact hR _ ⟨rest, _, _, rfl, e⟩
def noA (k : Int) : D := .tuple [.str "no", .str "stretches", .int k, .bool true]
def MD (ds : List D) (Q : QD) : Prop := match firstBad 0 ds with
  | some k => Q (noA k)
  | none => ∀ ps, rows? ds = some ps → Q (.tuple [.str "ok", .tuple ((line ps).map prD)])
theorem law_made {n : Nat} {ds : List D} {Q : QD} {E : Ex} (hs : ∀ x ∈ ds, sh x) (hl : ds.length ≤ 8 ∨ ds.length = 12) (h : MD ds Q) : W (n + 5) f__law_made [.list ds] Q E := by
  refine wC_of (fn := fn__law_made) rfl rfl ?_
  have fin : ∀ (Q' : QD) (E' : Ex), (∀ ps, rows? ds = some ps → firstBad 0 ds = none → Q' (.tuple ((line ps).map prD))) → (∀ k, firstBad 0 ds = some k → E' 4 [.str "stretches", .int k]) → W (n + 4) f_asks_of [.tuple ds] Q' E' := fun Q' E' h1 h2 => by
    refine asks_of_w hs (by omega) ?_
    unfold MQ
    cases e : firstBad 0 ds with
    | some k => exact h2 k e
    | none => exact fun ps hps => h1 ps hps e
  have ok : ∀ ps, rows? ds = some ps → firstBad 0 ds = none → Q (.tuple [.str "ok", .tuple ((line ps).map prD)]) := fun ps hps e => by
    unfold MD at h
    rw [e] at h
    exact h ps hps
  have no : ∀ k : Nat, firstBad 0 ds = some k → Q (noA k) := fun k e => by
    unfold MD at h
    rw [e] at h
    exact h
  match ds, hs, hl, fin, ok, no with
  | [], hs, hl, fin, ok, no =>
    simp [fn__law_made, at2, at3, at4, at5, at6, at7, at8, at9, at10, at11]
    refine fin _ _ (fun ps hps e => ?_) fun k e => ?_
    · simpa using ok ps hps e
    · have := no k e
      simp [sub, flds]
      exact this
  | [x0], hs, hl, fin, ok, no =>
    simp [fn__law_made, at2, at3, at4, at5, at6, at7, at8, at9, at10, at11]
    refine fin _ _ (fun ps hps e => ?_) fun k e => ?_
    · simpa using ok ps hps e
    · have := no k e
      simp [sub, flds]
      exact this
  | [x0, x1], hs, hl, fin, ok, no =>
    simp [fn__law_made, at2, at3, at4, at5, at6, at7, at8, at9, at10, at11]
    refine fin _ _ (fun ps hps e => ?_) fun k e => ?_
    · simpa using ok ps hps e
    · have := no k e
      simp [sub, flds]
      exact this
  | [x0, x1, x2], hs, hl, fin, ok, no =>
    simp [fn__law_made, at2, at3, at4, at5, at6, at7, at8, at9, at10, at11]
    refine fin _ _ (fun ps hps e => ?_) fun k e => ?_
    · simpa using ok ps hps e
    · have := no k e
      simp [sub, flds]
      exact this
  | [x0, x1, x2, x3], hs, hl, fin, ok, no =>
    simp [fn__law_made, at2, at3, at4, at5, at6, at7, at8, at9, at10, at11]
    refine fin _ _ (fun ps hps e => ?_) fun k e => ?_
    · simpa using ok ps hps e
    · have := no k e
      simp [sub, flds]
      exact this
  | [x0, x1, x2, x3, x4], hs, hl, fin, ok, no =>
    simp [fn__law_made, at2, at3, at4, at5, at6, at7, at8, at9, at10, at11]
    refine fin _ _ (fun ps hps e => ?_) fun k e => ?_
    · simpa using ok ps hps e
    · have := no k e
      simp [sub, flds]
      exact this
  | [x0, x1, x2, x3, x4, x5], hs, hl, fin, ok, no =>
    simp [fn__law_made, at2, at3, at4, at5, at6, at7, at8, at9, at10, at11]
    refine fin _ _ (fun ps hps e => ?_) fun k e => ?_
    · simpa using ok ps hps e
    · have := no k e
      simp [sub, flds]
      exact this
  | [x0, x1, x2, x3, x4, x5, x6], hs, hl, fin, ok, no =>
    simp [fn__law_made, at2, at3, at4, at5, at6, at7, at8, at9, at10, at11]
    refine fin _ _ (fun ps hps e => ?_) fun k e => ?_
    · simpa using ok ps hps e
    · have := no k e
      simp [sub, flds]
      exact this
  | [x0, x1, x2, x3, x4, x5, x6, x7], hs, hl, fin, ok, no =>
    simp [fn__law_made, at2, at3, at4, at5, at6, at7, at8, at9, at10, at11]
    refine fin _ _ (fun ps hps e => ?_) fun k e => ?_
    · simpa using ok ps hps e
    · have := no k e
      simp [sub, flds]
      exact this
  | [x0, x1, x2, x3, x4, x5, x6, x7, x8, x9, x10, x11], hs, hl, fin, ok, no =>
    simp [fn__law_made, at2, at3, at4, at5, at6, at7, at8, at9, at10, at11]
    refine fin _ _ (fun ps hps e => ?_) fun k e => ?_
    · simpa using ok ps hps e
    · have := no k e
      simp [sub, flds]
      exact this
  | [x0, x1, x2, x3, x4, x5, x6, x7, x8], hs, hl, fin, ok, no => exact absurd hl (by simp)
  | [x0, x1, x2, x3, x4, x5, x6, x7, x8, x9], hs, hl, fin, ok, no => exact absurd hl (by simp)
  | [x0, x1, x2, x3, x4, x5, x6, x7, x8, x9, x10], hs, hl, fin, ok, no => exact absurd hl (by simp)
  | x0 :: x1 :: x2 :: x3 :: x4 :: x5 :: x6 :: x7 :: x8 :: x9 :: x10 :: x11 :: x12 :: xs, hs, hl, fin, ok, no => exact absurd hl (by simp only [List.length_cons]; omega)
end K01.P

set_option maxHeartbeats 1000000
namespace K01.P
open PySem Uq
def okD (d : D) : D := .tuple [.str "ok", d]
theorem call_lets {n : Nat} {d b : D} {Q : QD} {E : Ex} (hs : sh d) (h : Q (chkA (letsA d))) : W (n + 5) f__law_call [.str "lets_asks", d, b] Q E := by
  refine wC_of (fn := fn__law_call) rfl rfl ?_
  simp [fn__law_call]
  refine lets_asks hs ?_
  cases e : letsA d with
  | ok m => rw [e] at h; exact h
  | bad w a =>
    rw [e] at h
    simp [AQ, sub, flds]
    exact h
theorem call_fault {n : Nat} {d b : D} {Q : QD} {E : Ex} (hs : sh d) (he : asks? d = none → Q (noD "asks")) (h : ∀ ps, asks? d = some ps → Q (okD (faultD (fault ps)))) : W (n + 7) f__law_call [.str "order_fault", d, b] Q E := by
  refine wC_of (fn := fn__law_call) rfl rfl ?_
  simp [fn__law_call]
  refine order_fault hs (fun ps e => ?_) fun z => ?_
  · have := h ps e
    first | exact this | simpa [okD] using this
  · have := he z
    simp [sub, flds]
    exact this
theorem call_wide {n : Nat} {d b : D} {Q : QD} {E : Ex} (hs : sh d) (he : asks? d = none → Q (noD "asks")) (h : ∀ ps, asks? d = some ps → ps.length ≤ 1000 ∧ Q (okD (.tuple ((wide ps).map prD)))) : W (n + 7) f__law_call [.str "wide_asks", d, b] Q E := by
  refine wC_of (fn := fn__law_call) rfl rfl ?_
  simp [fn__law_call]
  refine wide_asks hs (fun z => ?_) fun ps e => ⟨(h ps e).1, ?_⟩
  · have := he z
    simp [sub, flds]
    exact this
  · have := (h ps e).2
    first | exact this | simpa [okD] using this
theorem call_covered {n : Nat} {d b : D} {Q : QD} {E : Ex} (hs : sh d) (he : asks? d = none → Q (noD "asks")) (h : ∀ ps, asks? d = some ps → (ps.length ≤ 100 ∧ ∀ p ∈ ps, p.2 ≤ 1000) ∧ Q (okD (.tuple ((coverL ps).map .int)))) : W (n + 7) f__law_call [.str "covered", d, b] Q E := by
  refine wC_of (fn := fn__law_call) rfl rfl ?_
  simp [fn__law_call]
  refine covered hs (fun z => ?_) fun ps e => ⟨(h ps e).1, ?_⟩
  · have := he z
    simp [sub, flds]
    exact this
  · have := (h ps e).2
    first | exact this | simpa [okD] using this
theorem call_clubs {n : Nat} {d b : D} {Q : QD} {E : Ex} (hs : sh d) (he : asks? d = none → Q (noD "asks")) (h : ∀ ps, asks? d = some ps → ps.length ≤ 1000 ∧ Q (okD (.tuple ((clubs ps).map clubD)))) : W (n + 8) f__law_call [.str "clubs_of", d, b] Q E := by
  refine wC_of (fn := fn__law_call) rfl rfl ?_
  simp [fn__law_call]
  refine clubs_of hs (fun z => ?_) fun ps e => ⟨(h ps e).1, ?_⟩
  · have := he z
    simp [sub, flds]
    exact this
  · have := (h ps e).2
    first | exact this | simpa [okD] using this
theorem call_longest {n : Nat} {d b : D} {Q : QD} {E : Ex} (hs : sh d) (he : asks? d = none → Q (noD "asks")) (h : ∀ ps, asks? d = some ps → ps.length ≤ 1000 ∧ Q (okD (.int (endP ps)))) : W (n + 7) f__law_call [.str "longest_end", d, b] Q E := by
  refine wC_of (fn := fn__law_call) rfl rfl ?_
  simp [fn__law_call]
  refine longest_end hs (fun z => ?_) fun ps e => ⟨(h ps e).1, ?_⟩
  · have := he z
    simp [sub, flds]
    exact this
  · have := (h ps e).2
    first | exact this | simpa [okD] using this
theorem call_quo_no {n : Nat} {a b : D} {w : Str} {Q : QD} {E : Ex} (ha : sh a) (hb : sh b) (hw : isInt a = false ∧ w = "top" ∨ isInt a = true ∧ isNz b = false ∧ w = "bottom") (h : Q (noD w)) : W (n + 4) f__law_call [.str "quotient_of", a, b] Q E := by
  refine wC_of (fn := fn__law_call) rfl rfl ?_
  simp [fn__law_call]
  refine quotient_of ha hb (fun z => ?_) (fun z1 z2 => ?_) fun i j e1 e2 z => ?_
  · rcases hw with ⟨_, rfl⟩ | ⟨z', _⟩
    · simp [sub, flds]; exact h
    · rw [z] at z'; cases z'
  · rcases hw with ⟨z', _⟩ | ⟨_, _, rfl⟩
    · rw [z1] at z'; cases z'
    · simp [sub, flds]; exact h
  · subst e1; subst e2
    simp [isInt, isNz, z] at hw
/-- which of two is refused -/
def NoW (a b : D) (w : Str) : Prop := isQuo a = false ∧ w = "one" ∨ isQuo a = true ∧ isQuo b = false ∧ w = "other"
theorem NoW.two {a b : D} {w : Str} {E : Ex} (hw : NoW a b w) (ha : sh a) (hb : sh b) (h : E 4 [.str w, .int (-1)]) : Two a b E := by
  refine ⟨ha, hb, fun z => ?_, fun z1 z2 => ?_⟩
  · rcases hw with ⟨_, rfl⟩ | ⟨z', _⟩
    · exact h
    · rw [z] at z'; cases z'
  · rcases hw with ⟨z', _⟩ | ⟨_, _, rfl⟩
    · rw [z1] at z'; cases z'
    · exact h
theorem NoW.not {a b : D} {w : Str} {p q : Pr2} (hw : NoW a b w) (e1 : a = prD p) (e2 : b = prD q) (h1 : isQuo (prD p) = true) (h2 : isQuo (prD q) = true) : False := by
  subst e1; subst e2
  rcases hw with ⟨z, _⟩ | ⟨_, z, _⟩
  · rw [h1] at z; cases z
  · rw [h2] at z; cases z
theorem NoW.absurd {a b : D} {w : Str} (hw : NoW a b w) (h1 : isQuo a = true) (h2 : isQuo b = true) : False := by
  rcases hw with ⟨z, _⟩ | ⟨_, z, _⟩
  · rw [h1] at z; cases z
  · rw [h2] at z; cases z
theorem call_plus_no {n : Nat} {a b : D} {w : Str} {Q : QD} {E : Ex} (ha : sh a) (hb : sh b) (hw : NoW a b w) (h : Q (noD w)) : W (n + 5) f__law_call [.str "plus", a, b] Q E := by
  refine wC_of (fn := fn__law_call) rfl rfl ?_
  simp [fn__law_call]
  refine plus (hw.two ha hb (by simp [sub, flds]; exact h)) fun p q e1 e2 h1 h2 => (hw.absurd h1 h2).elim
theorem call_minus_no {n : Nat} {a b : D} {w : Str} {Q : QD} {E : Ex} (ha : sh a) (hb : sh b) (hw : NoW a b w) (h : Q (noD w)) : W (n + 5) f__law_call [.str "minus", a, b] Q E := by
  refine wC_of (fn := fn__law_call) rfl rfl ?_
  simp [fn__law_call]
  refine minus (hw.two ha hb (by simp [sub, flds]; exact h)) fun p q e1 e2 h1 h2 => (hw.absurd h1 h2).elim
theorem call_times_no {n : Nat} {a b : D} {w : Str} {Q : QD} {E : Ex} (ha : sh a) (hb : sh b) (hw : NoW a b w) (h : Q (noD w)) : W (n + 5) f__law_call [.str "times", a, b] Q E := by
  refine wC_of (fn := fn__law_call) rfl rfl ?_
  simp [fn__law_call]
  refine times (hw.two ha hb (by simp [sub, flds]; exact h)) fun p q e1 e2 h1 h2 => (hw.absurd h1 h2).elim
theorem call_less_no {n : Nat} {a b : D} {w : Str} {Q : QD} {E : Ex} (ha : sh a) (hb : sh b) (hw : NoW a b w) (h : Q (noD w)) : W (n + 5) f__law_call [.str "less", a, b] Q E := by
  refine wC_of (fn := fn__law_call) rfl rfl ?_
  simp [fn__law_call]
  refine less (hw.two ha hb (by simp [sub, flds]; exact h)) fun p q e1 e2 h1 h2 => (hw.absurd h1 h2).elim
theorem ref_sum {n : Nat} {a b : D} {f w : Str} {Q : QD} {E : Ex} (hf : f = "plus" ∨ f = "minus" ∨ f = "times" ∨ f = "less") (ha : sh a) (hb : sh b) (hw : NoW a b w) (h : Q (.bool true)) : W (n + 6) f__law_refused [.str f, a, b, .str w] Q E := by
  refine wC_of (fn := fn__law_refused) rfl rfl ?_
  simp [fn__law_refused]
  have s : ∀ {Q' : QD} {E' : Ex}, Q' (.bool true) → W (n + 5) f__law_same [noD w, noD w] Q' E' := fun hq => same 4 short_no hq
  rcases hf with rfl | rfl | rfl | rfl
  · exact call_plus_no ha hb hw (s h)
  · exact call_minus_no ha hb hw (s h)
  · exact call_times_no ha hb hw (s h)
  · exact call_less_no ha hb hw (s h)
theorem ref_quo {n : Nat} {a b : D} {w : Str} {Q : QD} {E : Ex} (ha : sh a) (hb : sh b) (hw : isInt a = false ∧ w = "top" ∨ isInt a = true ∧ isNz b = false ∧ w = "bottom") (h : Q (.bool true)) : W (n + 6) f__law_refused [.str "quotient_of", a, b, .str w] Q E := by
  refine wC_of (fn := fn__law_refused) rfl rfl ?_
  simp [fn__law_refused]
  exact call_quo_no ha hb hw (same 4 short_no h)
/-- rows that are none, refused by all five -/
theorem ref_asks {n : Nat} {d : D} {f : Str} {Q : QD} {E : Ex} (hf : f = "order_fault" ∨ f = "wide_asks" ∨ f = "covered" ∨ f = "clubs_of" ∨ f = "longest_end") (hs : sh d) (he : asks? d = none) (h : Q (.bool true)) : W (n + 9) f__law_refused [.str f, d, .none, .str "asks"] Q E := by
  refine wC_of (fn := fn__law_refused) rfl rfl ?_
  simp [fn__law_refused]
  have s : ∀ {Q' : QD} {E' : Ex}, Q' (.bool true) → W (n + 8) f__law_same [noD "asks", noD "asks"] Q' E' := fun hq => same 4 short_no hq
  have no : ∀ (ps : List Pr2) (P : Prop), asks? d = some ps → P := fun ps P e => by rw [he] at e; cases e
  rcases hf with rfl | rfl | rfl | rfl | rfl
  · exact call_fault hs (fun _ => s h) fun ps e => no ps _ e
  · exact call_wide hs (fun _ => s h) fun ps e => no ps _ e
  · exact call_covered hs (fun _ => s h) fun ps e => no ps _ e
  · exact call_clubs hs (fun _ => s h) fun ps e => no ps _ e
  · exact call_longest hs (fun _ => s h) fun ps e => no ps _ e
/-! odd things, refused -/
def odds : List D := [.tuple [.int 2, .int 4], .tuple [.int 0, .int 2], .tuple [.int 1, .int 0], .tuple [.int 1, .int (-2)], .tuple [.bool true, .int 1], .tuple [.int 1, .bool true], .list [.int 1, .int 2], .none, .int 3, .tuple [.int 1, .int 2, .int 3], .str "1 2", .tuple [.int 1], .tuple [], .tuple [.int 6, .int 9]]
theorem w_12s : PyData.canLay0 (.str "1 2") = true := by decide +kernel
theorem w_1 : PyData.canLay0 (.str "1") = true := by decide +kernel
theorem odds_ok : ∀ d ∈ odds, sh d ∧ isQuo d = false := by
  intro d hd
  simp only [odds, List.mem_cons, List.not_mem_nil, or_false] at hd
  have p2 : ∀ a b : D, shd 1 a → shd 1 b → sh (.tuple [a, b]) := fun a b h1 h2 => shd_sh (shd_pair h1 h2) (by decide)
  rcases hd with rfl | rfl | rfl | rfl | rfl | rfl | rfl | rfl | rfl | rfl | rfl | rfl | rfl | rfl
  · exact ⟨p2 _ _ shd_int shd_int, by decide⟩
  · exact ⟨p2 _ _ shd_int shd_int, by decide⟩
  · exact ⟨p2 _ _ shd_int shd_int, by decide⟩
  · exact ⟨p2 _ _ shd_int shd_int, by decide⟩
  · exact ⟨p2 _ _ shd_bool shd_int, rfl⟩
  · exact ⟨p2 _ _ shd_int shd_bool, rfl⟩
  · exact ⟨shd_sh (k := 1) (shd_lst fun x hx => by simp at hx; rcases hx with rfl | rfl <;> exact shd_int) (by decide), rfl⟩
  · exact ⟨sn, rfl⟩
  · exact ⟨si _, rfl⟩
  · exact ⟨shd_sh (k := 1) (shd_tup fun x hx => by simp at hx; rcases hx with rfl | rfl | rfl <;> exact shd_int) (by decide), rfl⟩
  · exact ⟨shd_sh (k := 0) (shd_str w_12s) (by decide), rfl⟩
  · exact ⟨shd_sh (k := 1) (shd_uno shd_int) (by decide), rfl⟩
  · exact ⟨shd_sh (k := 1) (shd_tup fun x hx => (nomatch hx)) (by decide), rfl⟩
  · exact ⟨p2 _ _ shd_int shd_int, by decide⟩
def tops : List D := [.bool true, .none, .str "1", .tuple [.int 1, .int 2], .list [.int 1]]
theorem tops_ok : ∀ d ∈ tops, sh d ∧ isInt d = false ∧ isNz d = false := by
  intro d hd
  simp only [tops, List.mem_cons, List.not_mem_nil, or_false] at hd
  rcases hd with rfl | rfl | rfl | rfl | rfl
  · exact ⟨shd_sh (k := 0) shd_bool (by decide), rfl, rfl⟩
  · exact ⟨sn, rfl, rfl⟩
  · exact ⟨shd_sh (k := 0) (shd_str w_1) (by decide), rfl, rfl⟩
  · exact ⟨shd_sh (k := 1) (shd_pair shd_int shd_int) (by decide), rfl, rfl⟩
  · exact ⟨shd_sh (k := 1) (shd_lst fun x hx => by simp at hx; subst hx; exact shd_int) (by decide), rfl, rfl⟩
theorem law_odd_sums {n : Nat} {g : D} {pick : Int} {Q : QD} {E : Ex} (hs : sh g) (hg : isQuo g = true) (hn : noL g = true) (h : Q (.bool true)) : W (n + 7) f__law_odd_sums [g, .int pick] Q E := by
  refine wC_of (fn := fn__law_odd_sums) rfl rfl ?_
  simp [fn__law_odd_sums, asgn_lF, nms, nmsL, frzIt, hn]
  refine frW_ind (I := fun es ρ => (∀ x ∈ es, sh x ∧ isQuo x = false) ∧ ∃ (pk : Int) (s2 s3 s4 : Sl), ρ = [.va g, .va (.int pk), s2, s3, s4]) ?_ ?_ _ _ ⟨odds_ok, pick, _, _, _, rfl⟩
  · rintro ρ ⟨_, pk, s2, s3, s4, rfl⟩
    simp [frzIt, nms, nmsL]
    refine frW_ind (I := fun es ρ => (∀ x ∈ es, sh x ∧ isInt x = false ∧ isNz x = false) ∧ ∃ (s1 s3 : Sl), ρ = [.va g, s1, .no, s3, .no]) ?_ ?_ _ _ ⟨tops_ok, _, _, rfl⟩
    · rintro ρ ⟨_, s1, s3, rfl⟩
      simp
      exact ref_quo (n := n) (si 3) (si 0) (.inr ⟨rfl, rfl, rfl⟩) h
    · rintro x es ρ R ⟨hx, s1, s3, rfl⟩ hR
      obtain ⟨h1, h2, h3⟩ := hx x List.mem_cons_self
      simp
      refine ref_quo (n := n) h1 (si 0) (.inl ⟨h2, rfl⟩) ?_
      simp
      refine ref_quo (n := n) (si 3) h1 (.inr ⟨rfl, h3, rfl⟩) ?_
      simp
      exact hR _ ⟨fun y hy => hx y (List.mem_cons_of_mem _ hy), _, _, rfl⟩
  · rintro x es ρ R ⟨hx, pk, s2, s3, s4, rfl⟩ hR
    obtain ⟨h1, h2⟩ := hx x List.mem_cons_self
    have hat : ∃ f : Str, L2.atI [PyData.str "plus", .str "minus", .str "times", .str "less"] (pk.fmod 4) = some (.str f) ∧ (f = "plus" ∨ f = "minus" ∨ f = "times" ∨ f = "less") := by
      obtain ⟨d, hd, hm⟩ := atI_mem (ds := [PyData.str "plus", .str "minus", .str "times", .str "less"]) (j := pk.fmod 4) (fmod_in (by decide)).1 (fmod_in (by decide)).2
      simp only [List.mem_cons, List.not_mem_nil, or_false] at hm
      rcases hm with rfl | rfl | rfl | rfl
      · exact ⟨_, hd, .inl rfl⟩
      · exact ⟨_, hd, .inr (.inl rfl)⟩
      · exact ⟨_, hd, .inr (.inr (.inl rfl))⟩
      · exact ⟨_, hd, .inr (.inr (.inr rfl))⟩
    obtain ⟨f, hat, hf⟩ := hat
    simp [hat]
    refine ref_sum (n := n) hf h1 hs (.inl ⟨h2, rfl⟩) ?_
    simp
    refine ref_sum (n := n) hf hs h1 (.inr ⟨hg, h2, rfl⟩) ?_
    simp
    refine ref_sum (n := n) hf h1 h1 (.inl ⟨h2, rfl⟩) ?_
    simp
    exact hR _ ⟨fun y hy => hx y (List.mem_cons_of_mem _ hy), _, _, _, _, rfl⟩
end K01.P

set_option maxHeartbeats 1000000
namespace K01.P
open PySem Uq
def q2 (a b : Int) : D := .tuple [.int a, .int b]
theorem sh_q2 {a b : Int} : sh (q2 a b) := shd_sh (shd_pr (k := 0) (p := (a, b))) (by decide)
theorem q2_inj {a b : Int} {p : Pr2} (e : q2 a b = prD p) : p = (a, b) := by
  have : q2 a b = .tuple [.int p.1, .int p.2] := e
  simp [q2] at this
  obtain ⟨rfl, rfl⟩ := this
  rfl
/-- two quotients, and their bounds -/
structure Ok2 (a b c d : Int) : Prop where
  qa : isQuo (q2 a b) = true
  qc : isQuo (q2 c d) = true
  fine : Fine (a, b) (c, d)
theorem Ok2.two {a b c d : Int} {E : Ex} (h : Ok2 a b c d) : Two (q2 a b) (q2 c d) E :=
  ⟨sh_q2, sh_q2, fun z => (by rw [h.qa] at z; cases z), fun _ z => (by rw [h.qc] at z; cases z)⟩
theorem Ok2.swap {a b c d : Int} (h : Ok2 a b c d) : Ok2 c d a b :=
  ⟨h.qc, h.qa, ⟨h.fine.1.2.2.1, h.fine.1.2.2.2, h.fine.1.1, h.fine.1.2.1⟩, h.fine.2.2, h.fine.2.1⟩
theorem Ok2.self {a b c d : Int} (h : Ok2 a b c d) : Ok2 a b a b :=
  ⟨h.qa, h.qa, ⟨h.fine.1.1, h.fine.1.2.1, h.fine.1.1, h.fine.1.2.1⟩, h.fine.2.1, h.fine.2.1⟩
theorem plus2 {n : Nat} {a b c d : Int} {Q : QD} {E : Ex} (o : Ok2 a b c d) (h : Q (prD (lowP (a * d + c * b) (b * d)))) : W (n + 4) f_plus [.tuple [.int a, .int b], .tuple [.int c, .int d]] Q E :=
  plus (a := q2 a b) (b := q2 c d) o.two fun p q e1 e2 _ _ => by
    cases q2_inj e1; cases q2_inj e2
    exact ⟨o.fine, h⟩
theorem minus2 {n : Nat} {a b c d : Int} {Q : QD} {E : Ex} (o : Ok2 a b c d) (h : Q (prD (lowP (a * d - c * b) (b * d)))) : W (n + 4) f_minus [.tuple [.int a, .int b], .tuple [.int c, .int d]] Q E :=
  minus (a := q2 a b) (b := q2 c d) o.two fun p q e1 e2 _ _ => by
    cases q2_inj e1; cases q2_inj e2
    exact ⟨o.fine, h⟩
theorem times2 {n : Nat} {a b c d : Int} {Q : QD} {E : Ex} (o : Ok2 a b c d) (h : Q (prD (lowP (a * c) (b * d)))) : W (n + 4) f_times [.tuple [.int a, .int b], .tuple [.int c, .int d]] Q E :=
  times (a := q2 a b) (b := q2 c d) o.two fun p q e1 e2 _ _ => by
    cases q2_inj e1; cases q2_inj e2
    exact ⟨o.fine, h⟩
theorem less2 {n : Nat} {a b c d : Int} {Q : QD} {E : Ex} (o : Ok2 a b c d) (h : Q (.bool (decide (a * d < c * b)))) : W (n + 4) f_less [.tuple [.int a, .int b], .tuple [.int c, .int d]] Q E :=
  less (a := q2 a b) (b := q2 c d) o.two fun p q e1 e2 _ _ => by
    cases q2_inj e1; cases q2_inj e2
    exact ⟨o.fine, h⟩
theorem quo2 {n : Nat} {a b : Int} {Q : QD} {E : Ex} (h0 : b ≠ 0) (hb : Bnd 200 b) (h : Q (prD (lowP a b))) : W (n + 3) f_quotient_of [.int a, .int b] Q E := by
  refine quotient_of (si a) (si b) (fun z => by cases z) (fun _ z => ?_) fun i j e1 e2 z => ?_
  · simp [isNz, h0] at z
  · cases e1; cases e2
    exact ⟨hb.le (by decide), h⟩
theorem pm10 {a b : D} : pmL [1, 0] [a, b] = [b, a] := id rfl
theorem short_b (b : Bool) : short 3 (.bool b) := by cases b <;> exact trivial
/-- the body past the two parts brought low -/
theorem law_sums {n : Nat} {a b c d : Int} {Q : QD} {E : Ex} (hb : b ≠ 0) (hd : d ≠ 0) (h1 : Bnd 200 a) (h2 : Bnd 200 b) (h3 : Bnd 200 c) (h4 : Bnd 200 d) (h : Q (.bool true)) :
    W (n + 5) f__law_sums [.tuple [.int a, .int b], .tuple [.int c, .int d]] Q E := by
  refine wC_of (fn := fn__law_sums) rfl rfl ?_
  simp only [fn__law_sums]
  refine wSs_cut 5 ?_
  obtain ⟨l1, l2⟩ := low_bnd h1 h2 hb
  obtain ⟨l3, l4⟩ := low_bnd h3 h4 hd
  have o : Ok2 (lowP a b).1 (lowP a b).2 (lowP c d).1 (lowP c d).2 := ⟨low_quo hb, low_quo hd, ⟨l1, l2, l3, l4⟩, low_pos hb, low_pos hd⟩
  simp [asgn_lF]
  refine law_lowest (p := (a, b)) (h1.le (by decide)) (h2.le (by decide)) hb ?_
  simp
  refine law_lowest (p := (c, d)) (h3.le (by decide)) (h4.le (by decide)) hd ?_
  simp
  generalize eP : lowP a b = P at *
  generalize eR : lowP c d = R at *
  obtain ⟨x, y⟩ := P
  obtain ⟨z, w⟩ := R
  have e1 : prD (x, y) = .tuple [.int x, .int y] := rfl
  have e2 : prD (z, w) = .tuple [.int z, .int w] := rfl
  simp only [e1, e2]
  simp
  refine quo2 hb h2 ?_
  refine law_stands (n := n + 1) hb (h1.le (by decide)) (h2.le (by decide)) ?_
  simp
  refine quo2 hd h4 ?_
  refine law_stands (n := n + 1) hd (h3.le (by decide)) (h4.le (by decide)) ?_
  have bx : Bnd 200 x := l1
  have bY : Bnd 200 y := l2
  have bz : Bnd 200 z := l3
  have bw : Bnd 200 w := l4
  have o' : Ok2 x y z w := o
  have ny : y ≠ 0 := by have := o'.fine.2.1; simp at this; omega
  have nw : w ≠ 0 := by have := o'.fine.2.2; simp at this; omega
  have ne : y * w ≠ 0 := Int.mul_ne_zero ny nw
  have m1 : MulOk y w := mul_bnd bY bw (by decide)
  have m2 : MulOk x w := mul_bnd bx bw (by decide)
  have m3 : MulOk z y := mul_bnd bz bY (by decide)
  have m4 : MulOk x z := mul_bnd bx bz (by decide)
  have b1 : Bnd 500 (y * w) := (bY.mul bw).le (by decide)
  have b2 : Bnd 400 (x * w) := bx.mul bw
  have b3 : Bnd 400 (z * y) := bz.mul bY
  have b4 : Bnd 500 (x * z) := (bx.mul bz).le (by decide)
  have b5 : Bnd 500 (x * w + z * y) := (b2.add b3).le (by decide)
  have b6 : Bnd 500 (x * w - z * y) := (b2.sub b3).le (by decide)
  have b7 : Bnd 500 (z * y - x * w) := (b3.sub b2).le (by decide)
  clear o e1 e2 l1 l2 l3 l4 eP eR h1 h2 h3 h4
  simp only [m1, m2, m3, m4, true_and, pm10]
  refine plus2 o' ?_
  refine law_stands (n := n + 1) ne b5 b1 ?_
  refine times2 o' ?_
  refine law_stands (n := n + 1) ne b4 b1 ?_
  refine times2 o' ?_
  refine law_stands (n := n + 1) ne b4 b1 ?_
  refine plus2 o' ?_
  refine law_stands (n := n + 1) ne b5 b1 ?_
  refine minus2 o' ?_
  refine law_stands (n := n + 1) ne b6 b1 ?_
  refine minus2 o'.swap ?_
  simp only [Int.mul_comm w y]
  refine law_stands (n := n + 1) ne b7 b1 ?_
  simp
  refine less2 o' ?_
  refine same (n := n) 3 (short_b _) ?_
  simp
  refine less2 o'.self ?_
  have hz : isBv false (.bool (decide (x * y < x * y))) = true := by
    rw [show decide (x * y < x * y) = false from by simp]; rfl
  simp only [hz, if_true]
  refine less2 o'.swap ?_
  exact same (n := n) 3 (short_b _) h
end K01.P

set_option maxHeartbeats 1000000
namespace K01.P
open PySem Uq
theorem bnd_of {k : Nat} {a : Int} (h0 : -((2 ^ k : Nat) : Int) < a) (h1 : a < ((2 ^ k : Nat) : Int)) : Bnd k a := by
  unfold Bnd
  omega
theorem bnd90 {a : Int} (h0 : 0 ≤ a) (h1 : a < 1000000000000000000000000) : Bnd 90 a :=
  bnd_of (by have : (0 : Int) < ((2 ^ 90 : Nat) : Int) := by decide
             omega) (by have : (1000000000000000000000000 : Int) < ((2 ^ 90 : Nat) : Int) := by decide
                        omega)
theorem bnd30 {a : Int} (h0 : -1000000 ≤ a) (h1 : a ≤ 1000000) : Bnd 30 a :=
  bnd_of (by have : (1000000 : Int) < ((2 ^ 30 : Nat) : Int) := by decide
             omega) (by have : (1000000 : Int) < ((2 ^ 30 : Nat) : Int) := by decide
                        omega)
theorem law_fraction {n : Nat} {xs : List Int} {Q : QD} {E : Ex} (hd : Dr xs [100000, 100000, 100000, 100000, 100000, 100000, 6, 2, 2]) (h : ∀ a b, b ≠ 0 → Bnd 200 a → Bnd 200 b → Q (.tuple [.int a, .int b])) : W (n + 1) f__law_fraction [.list (xs.map .int)] Q E := by
  obtain ⟨x0, h0, h00, h01⟩ := hd.ix (i := 0) (b := 100000) rfl
  obtain ⟨x1, h1, h10, h11⟩ := hd.ix (i := 1) (b := 100000) rfl
  obtain ⟨x2, h2, h20, h21⟩ := hd.ix (i := 2) (b := 100000) rfl
  obtain ⟨x3, h3, h30, h31⟩ := hd.ix (i := 3) (b := 100000) rfl
  obtain ⟨x4, h4, h40, h41⟩ := hd.ix (i := 4) (b := 100000) rfl
  obtain ⟨x5, h5, h50, h51⟩ := hd.ix (i := 5) (b := 100000) rfl
  obtain ⟨x6, h6, h60, h61⟩ := hd.ix (i := 6) (b := 6) rfl
  obtain ⟨x7, h7, h70, h71⟩ := hd.ix (i := 7) (b := 2) rfl
  obtain ⟨x8, h8, h80, h81⟩ := hd.ix (i := 8) (b := 2) rfl
  have h0 : L2.atI (xs.map PyData.int) 0 = some (.int x0) := h0
  have h1 : L2.atI (xs.map PyData.int) 1 = some (.int x1) := h1
  have h2 : L2.atI (xs.map PyData.int) 2 = some (.int x2) := h2
  have h3 : L2.atI (xs.map PyData.int) 3 = some (.int x3) := h3
  have h4 : L2.atI (xs.map PyData.int) 4 = some (.int x4) := h4
  have h5 : L2.atI (xs.map PyData.int) 5 = some (.int x5) := h5
  have h6 : L2.atI (xs.map PyData.int) 6 = some (.int x6) := h6
  have h7 : L2.atI (xs.map PyData.int) 7 = some (.int x7) := h7
  have h8 : L2.atI (xs.map PyData.int) 8 = some (.int x8) := h8
  refine wC_of (fn := fn__law_fraction) rfl rfl ?_
  refine wSs_cut 3 ?_
  generalize hr : fn__law_fraction.body.drop 3 = rest
  have key : ∀ t m : Int, 0 ≤ t → t < 1000000000000000000000000 → 1 ≤ m → m < 1000000000000000000000000 → wSs ⟨wC T sub flds n, sub, flds⟩ rest [.va (.list (xs.map .int)), .va (.int t), .va (.int m), .no] ⟨fun _ => Q .none, Q, fun _ => False, fun _ => False, fun c fs _ => E c fs⟩ := by
    intro t m t0 t1 m0 m1
    subst hr
    refine wSs_cut 1 ?_
    generalize hr : (fn__law_fraction.body.drop 3).drop 1 = rest
    have key : ∀ s : Int, 1 ≤ s → s ≤ 360360 → wSs ⟨wC T sub flds n, sub, flds⟩ rest [.va (.list (xs.map .int)), .va (.int t), .va (.int m), .va (.int s)] ⟨fun _ => Q .none, Q, fun _ => False, fun _ => False, fun c fs _ => E c fs⟩ := by
      intro s s0 s1
      subst hr
      have bt := bnd90 t0 t1
      have bm := bnd90 (by omega : 0 ≤ m) m1
      have bs : Bnd 30 s := bnd30 (by omega) (by omega)
      have b7 : Bnd 30 (1 - 2 * x7) := bnd30 (by omega) (by omega)
      have b8 : Bnd 30 (1 - 2 * x8) := bnd30 (by omega) (by omega)
      have ml : ∀ x : Int, 0 ≤ x → MulOk 2 x := fun x _ => mul_l (by decide) (by decide)
      simp [fn__law_fraction, h7, h8, ml x7 h70, ml x8 h80, mul_bnd bt bs (by decide), mul_bnd bm bs (by decide), mul_bnd (bt.mul bs) b7 (by decide), mul_bnd (bm.mul bs) b8 (by decide)]
      exact h _ _ (Int.mul_ne_zero (Int.mul_ne_zero (by omega) (by omega)) (by omega)) (((bt.mul bs).mul b7).le (by decide)) (((bm.mul bs).mul b8).le (by decide))
    have mo0 : MulOk 2 0 := mul_l (by decide) (by decide)
    have mo1 : MulOk 2 1 := mul_l (by decide) (by decide)
    have a0 : L2.atI [PyData.int 1, .int 1, .int 2, .int 360360] 0 = some (.int 1) := rfl
    have a1 : L2.atI [PyData.int 1, .int 1, .int 2, .int 360360] 1 = some (.int 1) := rfl
    have a2 : L2.atI [PyData.int 1, .int 1, .int 2, .int 360360] 2 = some (.int 2) := rfl
    have a3 : L2.atI [PyData.int 1, .int 1, .int 2, .int 360360] 3 = some (.int 360360) := rfl
    have hx : x6 = 0 ∨ x6 = 1 ∨ x6 = 2 ∨ x6 = 3 ∨ x6 = 4 ∨ x6 = 5 := by omega
    rcases hx with rfl | rfl | rfl | rfl | rfl | rfl <;> simp [fn__law_fraction, h6, a0, a1, a2, a3, mo0, mo1] <;> exact key _ (by decide) (by decide)
  have f1 := fmod_in (a := x0) (b := 13) (by decide)
  have f2 := fmod_in (a := x3) (b := 12) (by decide)
  have p18 : MulOk x0 1000000000000000000 := mul_l (by omega) (by omega)
  have p9 : MulOk x1 1000000000 := mul_l (by omega) (by omega)
  have p18' : MulOk x3 1000000000000000000 := mul_l (by omega) (by omega)
  have p8 : MulOk x4 100000000 := mul_l (by omega) (by omega)
  by_cases hx : 4 ≤ x6
  · simp [fn__law_fraction, h0, h1, h2, h3, h4, h5, h6, hx, p18, p9, p18', p8]
    exact key _ _ (by omega) (by omega) (by omega) (by omega)
  · simp [fn__law_fraction, h0, h1, h2, h3, h4, h5, h6, hx]
    exact key _ _ (by omega) (by omega) (by omega) (by omega)
end K01.P

set_option maxHeartbeats 1000000
namespace K01.P
open PySem Uq
def dueK (d : D) : D := .tuple [.bool (isInt d), .bool (isNum d), .bool (isQuo d), .bool (str? d).isSome, .bool (isLot d), .bool (isAsks d), .bool (isQueue d)]
theorem short_due {d : D} : short 4 (dueK d) := by
  refine ⟨by show 7 ≤ 1000; decide, fun x hx => ?_⟩
  simp only [List.mem_cons, List.not_mem_nil, or_false] at hx
  rcases hx with rfl | rfl | rfl | rfl | rfl | rfl | rfl <;> exact short_b _
theorem ok_of_chk {d : D} {Q : QD} (h : Q (.bool (isAsks d))) : ixR (chkA (letsA d)) (.int 0) fun x => cmpR .eq x (.str "ok") Q := by
  have e := letsA_good d
  cases e1 : letsA d with
  | ok m =>
    rw [e1] at e
    simp [chkA]
    rw [← e] at h
    exact h
  | bad w a =>
    rw [e1] at e
    simp [chkA]
    rw [← e] at h
    exact h
theorem law_kinds {n : Nat} {d : D} {b : Bool} {Q : QD} {E : Ex} (hs : sh d) (hl : ∀ ds, d = .tuple ds → ds.length ≤ 1000) (hb : small d) (h : Q (.bool true)) : W (n + 6) f__law_kinds [d, .bool b] Q E := by
  refine wC_of (fn := fn__law_kinds) rfl rfl ?_
  refine wSs_cut 2 ?_
  generalize hr : fn__law_kinds.body.drop 2 = rest
  have key : wSs ⟨wC T sub flds (n + 5), sub, flds⟩ rest [.va d, .va (.bool b), .va (dueK d), .no] ⟨fun _ => Q .none, Q, fun _ => False, fun _ => False, fun c fs _ => E c fs⟩ := by
    subst hr
    have st : ∀ {Q : QD} {E : Ex}, Q (.bool (str? d).isSome) → W (n + 5) f_is_stretch [d] Q E := fun h => is_stretch (n := n + 2) (sh_opq hs) (fun ds e x hx => sh_opq (sh_mem (e ▸ hs) hx)) (by rw [str_is]; exact h)
    have fin : W (n + 5) f__law_same [dueK d, dueK d] Q E := same (n := n) 4 short_due h
    cases b
    · simp [fn__law_kinds]
      refine is_integer (n := n + 4) (sh_opq hs) ?_
      refine is_number (n := n + 3) (sh_opq hs) ?_
      refine is_quotient (n := n + 3) hs ?_
      refine st ?_
      refine is_lot (n := n + 2) hs ?_
      refine is_asks (n := n + 1) (sh_ok2 hs) ?_
      refine is_queue (n := n) (sh_ok2 hs) ?_
      simp
      exact fin
    · simp [fn__law_kinds]
      refine is_integer (n := n + 4) (sh_opq hs) ?_
      refine is_number (n := n + 3) (sh_opq hs) ?_
      refine is_quotient (n := n + 3) hs ?_
      refine st ?_
      simp
      refine is_lot (n := n + 2) hs ?_
      refine is_asks (n := n + 1) (sh_ok2 hs) ?_
      refine is_queue (n := n) (sh_ok2 hs) ?_
      exact ⟨le_size (by decide), fin⟩
  simp [fn__law_kinds]
  refine law_int (n := n + 4) (sh_opq hs) ?_
  refine law_number (n := n + 3) (sh_opq hs) ?_
  refine law_quotient (n := n + 3) hs hb ?_
  refine law_stretch (n := n + 2) hs ?_
  refine law_lot (n := n + 3) hs ?_
  simp
  refine law_checked (n := n + 1) hs hl ?_
  refine ok_of_chk ?_
  refine law_queue (n := n) hs hl ?_
  simp
  exact ⟨le_size (by decide), key⟩
end K01.P

set_option maxHeartbeats 1000000
namespace K01.P
open PySem Uq
/-- what law_kinds wants of a thing -/
structure Kin (d : D) : Prop where
  sh : sh d
  len : ∀ ds, d = .tuple ds → ds.length ≤ 1000
  small : small d
theorem frz3 {a b : D} : ∀ (ns : List Nat) (s : Sl), ∃ s', frzL ns [.va a, .va b, s] = [.va a, .va b, s']
  | [], s => ⟨s, rfl⟩
  | 0 :: ns, s => frz3 ns s
  | 1 :: ns, s => frz3 ns s
  | 2 :: ns, s => frz3 ns s.frz
  | (k + 3) :: ns, s => by
    have e : ([.va a, .va b, s] : List Sl).modify (k + 3) Sl.frz = [.va a, .va b, s] := by
      exact List.modify_eq_self (by simp)
    show ∃ s', frzL ns (([.va a, .va b, s] : List Sl).modify (k + 3) Sl.frz) = _
    rw [e]
    exact frz3 ns s
theorem set3 {e : C} {ds : List D} {a b : D} {s : Sl} (h : Uq.fresh e = true) : asgn e 2 (.list ds) [.va a, .va b, s] = [.va a, .va b, .ol ds] := by
  cases hn : noLs ds with
  | true => rw [asgn_l h hn]; rfl
  | false =>
    rw [asgn_lF h hn]
    obtain ⟨s', e'⟩ := frz3 (a := a) (b := b) (nms e) s
    rw [e']
    rfl
def lenB : D → Bool
  | .tuple ds => Nat.ble ds.length 1000
  | _ => true
def smallB : D → Bool
  | .tuple [.int _, .int _] => false
  | _ => true
theorem kin_of {d : D} (h1 : PyData.canLay0 d = true) (h2 : Nat.ble (PyData.depth d) 5 = true) (h3 : lenB d = true) (h4 : smallB d = true) : Kin d := by
  refine ⟨shd_sh (k := 5) ⟨h1, Nat.le_of_ble_eq_true h2⟩ (by decide), fun ds e => ?_, fun a b e => ?_⟩
  · subst e; exact Nat.le_of_ble_eq_true h3
  · subst e; cases h4
theorem kin2 {a b : Int} (h1 : -1000000000000000000000000000000000000000000000000000000000000 ≤ a ∧ a ≤ 1000000000000000000000000000000000000000000000000000000000000) (h2 : -1000000000000000000000000000000000000000000000000000000000000 ≤ b ∧ b ≤ 1000000000000000000000000000000000000000000000000000000000000) : Kin (.tuple [.int a, .int b]) := by
  have big : (1000000000000000000000000000000000000000000000000000000000000 : Int) < ((2 ^ 1000 : Nat) : Int) := by decide +kernel
  refine ⟨shd_sh (shd_pair (k := 0) shd_int shd_int) (by decide), fun ds e => ?_, fun x y e => ?_⟩
  · cases e; show 2 ≤ 1000; decide
  · cases e
    have e1 : Bnd 1000 a := bnd_of (by omega) (by omega)
    have e2 : Bnd 1000 b := bnd_of (by omega) (by omega)
    exact ⟨e1, e2⟩
theorem kinI {i : Int} : Kin (.int i) := kin_of rfl rfl rfl rfl
theorem law_things {n : Nat} {a b : Int} {Q : QD} {E : Ex} (ha : 0 ≤ a ∧ a < 1000000000000000) (hb : 0 ≤ b ∧ b < 1000000000000000) (h : ∀ ds, ds.length ≤ 100 → (∀ d ∈ ds, Kin d) → Q (.list ds)) : W (n + 1) f__law_things [.int a, .int b] Q E := by
  refine wC_of (fn := fn__law_things) rfl rfl ?_
  have ext : ∀ {ds es : List D}, (∀ d ∈ ds, Kin d) → (∀ d ∈ es, Kin d) → ∀ d ∈ ds ++ es, Kin d := fun h1 h2 d hd => by
    rcases List.mem_append.mp hd with z | z
    · exact h1 d z
    · exact h2 d z
  refine wSs_cut 1 ?_
  generalize hr : fn__law_things.body.drop 1 = rest
  have key : ∀ ds : List D, ds.length = 16 → (∀ d ∈ ds, Kin d) → wSs ⟨wC T sub flds n, sub, flds⟩ rest [.va (.int a), .va (.int b), .ol ds] ⟨fun _ => Q .none, Q, fun _ => False, fun _ => False, fun c fs _ => E c fs⟩ := by
    intro ds dl hd
    subst hr
    refine wSs_cut 1 ?_
    generalize hr : (fn__law_things.body.drop 1).drop 1 = rest
    have key : ∀ ds : List D, ds.length = 24 → (∀ d ∈ ds, Kin d) → wSs ⟨wC T sub flds n, sub, flds⟩ rest [.va (.int a), .va (.int b), .ol ds] ⟨fun _ => Q .none, Q, fun _ => False, fun _ => False, fun c fs _ => E c fs⟩ := by
      intro ds dl hd
      subst hr
      refine wSs_cut 1 ?_
      generalize hr : ((fn__law_things.body.drop 1).drop 1).drop 1 = rest
      have key : ∀ ds : List D, ds.length = 32 → (∀ d ∈ ds, Kin d) → wSs ⟨wC T sub flds n, sub, flds⟩ rest [.va (.int a), .va (.int b), .ol ds] ⟨fun _ => Q .none, Q, fun _ => False, fun _ => False, fun c fs _ => E c fs⟩ := by
        intro ds dl hd
        subst hr
        refine wSs_cut 1 ?_
        generalize hr : (((fn__law_things.body.drop 1).drop 1).drop 1).drop 1 = rest
        have key : ∀ ds : List D, ds.length = 38 → (∀ d ∈ ds, Kin d) → wSs ⟨wC T sub flds n, sub, flds⟩ rest [.va (.int a), .va (.int b), .ol ds] ⟨fun _ => Q .none, Q, fun _ => False, fun _ => False, fun c fs _ => E c fs⟩ := by
          intro ds dl hd
          subst hr
          refine wSs_cut 1 ?_
          generalize hr : ((((fn__law_things.body.drop 1).drop 1).drop 1).drop 1).drop 1 = rest
          have key : ∀ ds : List D, ds.length = 44 → (∀ d ∈ ds, Kin d) → wSs ⟨wC T sub flds n, sub, flds⟩ rest [.va (.int a), .va (.int b), .ol ds] ⟨fun _ => Q .none, Q, fun _ => False, fun _ => False, fun c fs _ => E c fs⟩ := by
            intro ds dl hd
            subst hr
            simp [fn__law_things]
            exact ⟨le_size (by omega), h _ (by rw [List.length_append, dl]; exact Nat.le_of_ble_eq_true rfl) (ext hd (by intro d hd; simp only [List.mem_cons, List.not_mem_nil, or_false] at hd; rcases hd with rfl | rfl | rfl | rfl | rfl | rfl <;> first | exact kinI | exact kin2 (by omega) (by omega) | exact kin_of rfl rfl rfl rfl | exact kin_of (by decide +kernel) rfl rfl rfl))⟩
          simp [fn__law_things, set3]
          exact ⟨le_size (by omega), key _ (by rw [List.length_append, dl]; rfl) (ext hd (by intro d hd; simp only [List.mem_cons, List.not_mem_nil, or_false] at hd; rcases hd with rfl | rfl | rfl | rfl | rfl | rfl <;> first | exact kinI | exact kin2 (by omega) (by omega) | exact kin_of rfl rfl rfl rfl | exact kin_of (by decide +kernel) rfl rfl rfl))⟩
        simp [fn__law_things, set3]
        exact ⟨le_size (by omega), key _ (by rw [List.length_append, dl]; rfl) (ext hd (by intro d hd; simp only [List.mem_cons, List.not_mem_nil, or_false] at hd; rcases hd with rfl | rfl | rfl | rfl | rfl | rfl <;> first | exact kinI | exact kin2 (by omega) (by omega) | exact kin_of rfl rfl rfl rfl | exact kin_of (by decide +kernel) rfl rfl rfl))⟩
      simp [fn__law_things, set3]
      exact ⟨le_size (by omega), key _ (by rw [List.length_append, dl]; rfl) (ext hd (by intro d hd; simp only [List.mem_cons, List.not_mem_nil, or_false] at hd; rcases hd with rfl | rfl | rfl | rfl | rfl | rfl | rfl | rfl <;> first | exact kinI | exact kin2 (by omega) (by omega) | exact kin_of rfl rfl rfl rfl | exact kin_of (by decide +kernel) rfl rfl rfl))⟩
    simp [fn__law_things, set3]
    exact ⟨le_size (by omega), key _ (by rw [List.length_append, dl]; rfl) (ext hd (by intro d hd; simp only [List.mem_cons, List.not_mem_nil, or_false] at hd; rcases hd with rfl | rfl | rfl | rfl | rfl | rfl | rfl | rfl <;> first | exact kinI | exact kin2 (by omega) (by omega) | exact kin_of rfl rfl rfl rfl | exact kin_of (by decide +kernel) rfl rfl rfl))⟩
  simp [fn__law_things, set3]
  exact key _ rfl (by intro d hd; simp only [List.mem_cons, List.not_mem_nil, or_false] at hd; rcases hd with rfl | rfl | rfl | rfl | rfl | rfl | rfl | rfl | rfl | rfl | rfl | rfl | rfl | rfl | rfl | rfl <;> first | exact kinI | exact kin2 (by omega) (by omega) | exact kin_of rfl rfl rfl rfl | exact kin_of (by decide +kernel) rfl rfl rfl)
end K01.P

set_option maxHeartbeats 1000000
namespace K01.P
open PySem Uq
def shareB (a o : Pr2) : Bool := decide ((if o.1 < a.1 then a.1 else o.1) < (if a.2 < o.2 then a.2 else o.2))
def shareD (a : Pr2) : D → Bool
  | .tuple [.int x, .int y] => shareB a (x, y)
  | _ => false
theorem filt_share (a : Pr2) (c : List Pr2) : (c.map prD).filter (shareD a) = (c.filter (shareB a)).map prD := by
  rw [List.filter_map]
  rfl
theorem law_share {n : Nat} {c : List Pr2} {a : Pr2} {Q : QD} {E : Ex} (hl : c.length ≤ 1000) (h : Q (.bool (c.any (shareB a)))) : W (n + 1) f__law_share [.list (c.map prD), prD a] Q E := by
  refine wC_of (fn := fn__law_share) rfl rfl ?_
  have e0 : prD a = .tuple [.int a.1, .int a.2] := rfl
  simp [fn__law_share, frzIt, tgI, nms, nmsL]
  refine lcG_filt (fun d => d) (shareD a) _ [] (fun y hy R N hp hn => ?_) (by rw [List.length_nil, List.length_map]; exact le_size (by omega)) ?_
  · obtain ⟨p, _, rfl⟩ := List.mem_map.mp hy
    have e1 : prD p = .tuple [.int p.1, .int p.2] := rfl
    have hp : shareB a p = true → R (prD p) := hp
    have hn : shareB a p = false → N := hn
    unfold shareB at hp hn
    simp [e0, e1]
    by_cases z : (if p.1 < a.1 then a.1 else p.1) < (if a.2 < p.2 then a.2 else p.2)
    · rw [if_pos z]; exact hp (decide_eq_true z)
    · rw [if_neg z]; exact hn (decide_eq_false z)
  · rw [filt_share]
    simp
    have e2 : decide (0 < ((List.filter (shareB a) c).length : Int)) = c.any (shareB a) := by
      cases e3 : c.any (shareB a) with
      | true =>
        obtain ⟨x, hx, hp⟩ := List.any_eq_true.mp e3
        have := List.length_pos_of_mem (List.mem_filter.mpr ⟨hx, hp⟩)
        exact decide_eq_true (by omega)
      | false =>
        have : List.filter (shareB a) c = [] := List.filter_eq_nil_iff.mpr fun x hx => by
          have := List.any_eq_false.mp e3 x hx
          exact this
        rw [this]
        rfl
    rw [e2]
    exact h
/-- sorted, of lists of pairs in rising order of their first pairs -/
theorem leL {a b : Pr2} {as bs : List Pr2} (h : lt2 a b) : W.dataLe false id (.list ((a :: as).map prD)) (.list ((b :: bs).map prD)) = true := by
  show (!W.dataLt (.list ((b :: bs).map prD)) (.list ((a :: as).map prD))) = true
  rw [W.dataLt_list, List.map_cons, List.map_cons, W.dataLt_cons (by simp [prD, pr, W.alike, W.alikeAll])]
  have e : PyData.eqv (prD b) (prD a) = false := by
    show PyData.eqv (pr b.1 b.2) (pr a.1 a.2) = false
    rw [eqv_pr]
    unfold lt2 at h
    simp
    omega
  rw [e]
  show (!W.dataLt (.tuple [.int b.1, .int b.2]) (.tuple [.int a.1, .int a.2])) = true
  rw [W.dataLt_ii]
  unfold lt2 at h
  simp
  omega
def headsUp (cs : List (List Pr2)) : Prop := cs.Pairwise fun c d => ∃ a as b bs, c = a :: as ∧ d = b :: bs ∧ lt2 a b
theorem sorted_lists {cs : List (List Pr2)} {Q : QD} (hu : headsUp cs) (hs : ∀ c ∈ cs, SeqAt.shaped (.list (c.map prD)) = true) (h : Q (.list (cs.map fun c => .list (c.map prD)))) : biR .sorted [.list (cs.map fun c => .list (c.map prD))] Q := by
  have ala : ∀ c d : List Pr2, W.alikeAll (c.map prD) (d.map prD) = true := by
    intro c
    induction c with
    | nil => intro d; simp [W.alikeAll]
    | cons p c ih =>
      intro d
      cases d with
      | nil => simp [W.alikeAll]
      | cons q d =>
        have := ih d
        simp [W.alikeAll, this]
        simp [prD, pr, W.alike, W.alikeAll]
  refine ⟨⟨fun d hd e he => ?_, ?_, fun d hd => ?_⟩, ?_⟩
  · obtain ⟨p, _, rfl⟩ := List.mem_map.mp hd
    obtain ⟨q, _, rfl⟩ := List.mem_map.mp he
    simp [W.alike, ala]
  · exact W.Sortable.others fun b => ⟨fun e => (by cases e), fun xs e => (by cases e)⟩
  · obtain ⟨p, hp, rfl⟩ := List.mem_map.mp hd
    exact hs p hp
  · rw [List.mergeSort_of_pairwise]
    · exact h
    · rw [List.pairwise_map]
      refine hu.imp ?_
      rintro c d ⟨a, as, b, bs, rfl, rfl, hlt⟩
      exact leL hlt
end K01.P

set_option maxHeartbeats 1000000
namespace K01.P
open PySem Uq
def lD (c : List Pr2) : D := .list (c.map prD)
def shC (p : Pr2) (c : List Pr2) : Bool := c.any (shareB p)
def grownL (p : Pr2) (cs : List (List Pr2)) : List Pr2 := p :: (cs.filter (shC p)).flatten
def awayL (p : Pr2) (cs : List (List Pr2)) : List (List Pr2) := cs.filter fun c => !shC p c
theorem grown_app {p : Pr2} {a b : List (List Pr2)} : grownL p (a ++ b) = grownL p a ++ (b.filter (shC p)).flatten := by
  simp [grownL]
theorem flat_le {f : List Pr2 → Bool} : ∀ cs : List (List Pr2), (cs.filter f).flatten.length ≤ cs.flatten.length
  | [] => by simp
  | c :: cs => by
    have := flat_le (f := f) cs
    rw [List.filter_cons]
    split
    · simp only [List.flatten_cons, List.length_append]; omega
    · simp only [List.flatten_cons, List.length_append]; omega
theorem inner {n : Nat} {p : Pr2} {X0 X1 s5 : Sl} {cs : List (List Pr2)} {k : K} (hl : cs.flatten.length + cs.length ≤ 1000)
    (h : ∀ s5, k.nx [X0, X1, .va (prD p), .ol ((grownL p cs).map prD), .ol ((awayL p cs).map lD), s5]) :
    frW (wSs { call := wC T sub flds (n + 1), sub := sub, flds := flds }
          [S.ite (C.call f__law_share [] [C.var 5, C.var 2]) [S.asg 3 (C.bin Bo.add (C.var 3) (C.var 5))]
              [S.app 4 (C.var 5)]]) (Tg.nm 5) k (cs.map lD) [X0, X1, .va (prD p), .ol [prD p], .ol [], s5] := by
  refine frW_ind (I := fun es ρ => ∃ (done todo : List (List Pr2)) (s5 : Sl), cs = done ++ todo ∧ es = todo.map lD ∧ ρ = [X0, X1, .va (prD p), .ol ((grownL p done).map prD), .ol ((awayL p done).map lD), s5]) ?_ ?_ _ _ ⟨[], cs, _, rfl, rfl, rfl⟩
  · rintro ρ ⟨done, todo, s5, rfl, e, rfl⟩
    have : todo = [] := by cases todo <;> first | rfl | cases e
    subst this
    simpa using h s5
  · rintro x es ρ R ⟨done, todo, s5, rfl, e, rfl⟩ hR
    cases todo with
    | nil => cases e
    | cons c todo =>
      rw [List.map_cons] at e
      obtain ⟨rfl, rfl⟩ := List.cons.inj e
      simp
      refine law_share (n := n) (by simp at hl; omega) ?_
      have e1 : ((c.any (shareB p)) = shC p c) := rfl
      rw [e1]
      cases es : shC p c with
      | true =>
        have eg : grownL p (done ++ [c]) = grownL p done ++ c := by
          rw [grown_app, List.filter_cons, if_pos es]; simp
        have ea : awayL p (done ++ [c]) = awayL p done := by
          simp [awayL, es]
        have lg : (grownL p done).length ≤ 1 + done.flatten.length := by
          have := flat_le (f := shC p) done
          simp only [grownL, List.length_cons]; omega
        have ll : (grownL p done).length + c.length ≤ sizeLine := le_size (by simp at hl lg; omega)
        show truR (.bool true) _
        simp [lD, ll]
        rw [← List.map_append, asgn_l rfl (noLs_prs _)]
        refine hR _ ⟨done ++ [c], todo, .va (lD c), by simp, rfl, ?_⟩
        rw [eg, ea]
        rfl
      | false =>
        have eg : grownL p (done ++ [c]) = grownL p done := by
          rw [grown_app, List.filter_cons, if_neg (by rw [es]; decide)]; simp
        have ea : awayL p (done ++ [c]) = awayL p done ++ [c] := by
          simp [awayL, es]
        have la : (awayL p done).length < sizeLine := by
          have : (awayL p done).length ≤ done.length := List.length_filter_le _ _
          exact Nat.lt_of_lt_of_le (by simp at hl; omega : (awayL p done).length < 100000) (le_size (by decide))
        simp [la]
        refine hR _ ⟨done ++ [c], todo, .va (lD c), by simp, rfl, ?_⟩
        rw [eg, ea, List.map_append]
        rfl
theorem noLs_snocL {c : List Pr2} : ∀ xs : List D, noLs (xs ++ [lD c]) = false
  | [] => rfl
  | x :: xs => by rw [List.cons_append, noLs_cons, noLs_snocL xs, Bool.and_false]
/-- one turn of the law's clubs -/
def stepC (cs : List (List Pr2)) (p : Pr2) : List (List Pr2) := awayL p cs ++ [(grownL p cs).mergeSort leP2]
def runC : List (List Pr2) → List Pr2 → List (List Pr2)
  | cs, [] => cs
  | cs, p :: ps => runC (stepC cs p) ps
def size (cs : List (List Pr2)) : Nat := cs.flatten.length + cs.length
theorem size_step {cs : List (List Pr2)} {p : Pr2} : size (stepC cs p) ≤ size cs + 2 := by
  have key : ∀ cs : List (List Pr2), (awayL p cs).flatten.length + (cs.filter (shC p)).flatten.length = cs.flatten.length := by
    intro cs
    induction cs with
    | nil => rfl
    | cons c cs ih =>
      cases e : shC p c
      · simp only [awayL, List.filter_cons, e] at ih ⊢
        simp at ih ⊢
        omega
      · simp only [awayL, List.filter_cons, e] at ih ⊢
        simp at ih ⊢
        omega
  have k1 := key cs
  have k2 : (awayL p cs).length ≤ cs.length := List.length_filter_le _ _
  unfold size stepC
  simp only [List.flatten_append, List.length_append, List.flatten_cons, List.flatten_nil, List.append_nil, List.length_mergeSort, List.length_cons, List.length_nil, grownL]
  omega
theorem law_clubs0 {n : Nat} {ps : List Pr2} {Q : QD} {E : Ex} (hl : ps.length ≤ 400) (hu : headsUp (runC [] ps)) (hs : ∀ c ∈ runC [] ps, SeqAt.shaped (.list (c.map prD)) = true) (h : Q (.tuple ((runC [] ps).map clubD))) : W (n + 2) f__law_clubs [.tuple (ps.map prD)] Q E := by
  refine wC_of (fn := fn__law_clubs) rfl rfl ?_
  refine wSs_cut 1 ?_
  simp [fn__law_clubs]
  simp [frzIt, tgI, nms, nmsL]
  refine frW_ind (I := fun es ρ => ∃ (rest : List Pr2) (cs : List (List Pr2)) (s5 : Sl), es = rest.map prD ∧ ρ = [.va (.tuple (ps.map prD)), .ol (cs.map lD), .no, .no, .no, s5] ∧ runC cs rest = runC [] ps ∧ size cs + 2 * rest.length ≤ 900) ?_ ?_ _ _ ⟨ps, [], _, rfl, rfl, rfl, by show 0 + 2 * ps.length ≤ 900; omega⟩
  · rintro ρ ⟨rest, cs, s5, e, rfl, eg, hz⟩
    have : rest = [] := by cases rest <;> first | rfl | cases e
    subst this
    have eg : cs = runC [] ps := eg
    subst eg
    simp [frzIt, tgI, nms, nmsL]
    refine sorted_lists hu hs ?_
    simp
    refine lcG_map (fun d => match d with | .list ds => .tuple ds | d => d) _ [] (fun y hy R hR => ?_) (by rw [List.length_nil, List.length_map]; exact le_size (by unfold size at hz; omega)) ?_
    · obtain ⟨c, _, rfl⟩ := List.mem_map.mp hy
      simp
      exact hR
    · simp
      exact h
  · rintro x es ρ R ⟨rest, cs, s5, e, rfl, eg, hz⟩ hR
    cases rest with
    | nil => cases e
    | cons p rest =>
      rw [List.map_cons] at e
      obtain ⟨rfl, rfl⟩ := List.cons.inj e
      have hz' := hz
      unfold size at hz'
      rw [List.length_cons] at hz'
      simp [frzIt, tgI, nms, nmsL]
      refine inner (n := n) (by omega) fun s5 => ?_
      simp
      refine sorted_prs ?_
      have la : (awayL p cs).length ≤ cs.length := List.length_filter_le _ _
      refine ⟨le_size (by omega), ?_⟩
      have e2 : PyData.list (((grownL p cs).mergeSort leP2).map prD) = lD ((grownL p cs).mergeSort leP2) := rfl
      rw [e2, asgn_lF rfl (noLs_snocL _)]
      simp [nms, nmsL]
      refine hR _ ⟨rest, stepC cs p, s5, rfl, ?_, eg, ?_⟩
      · simp [stepC]
      · have := size_step (cs := cs) (p := p)
        rw [List.length_cons] at hz
        omega
end K01.P

set_option maxHeartbeats 1000000
namespace K01.P
open PySem Uq
theorem share_iff {p q : Pr2} (hw : wideB p = true) (hq : wideB q = true) (h : lt2 q p) : shareB p q = decide (p.1 < q.2) := by
  simp only [wideB, decide_eq_true_eq] at hw hq
  unfold lt2 at h
  unfold shareB
  refine decide_eq_decide.mpr ?_
  split <;> split <;> (constructor <;> intro _ <;> omega)
theorem le2_of {p q : Pr2} (h : lt2 p q) : leP2 p q = true := by
  unfold lt2 at h
  simp only [leP2, decide_eq_true_eq]
  omega
theorem srt_snoc {l : List Pr2} {p : Pr2} (hu : Up l) (h : ∀ q ∈ l, lt2 q p) : (p :: l).mergeSort leP2 = l ++ [p] := by
  have hu2 := up_snoc hu h
  refine List.Perm.eq_of_pairwise (le := fun p q => leP2 p q = true) (fun a b _ _ h1 h2 => ?_) (srt_pw _) (hu2.imp fun h => le2_of h) ?_
  · simp only [leP2, decide_eq_true_eq] at h1 h2
    exact Prod.ext (by omega) (by omega)
  · exact (List.mergeSort_perm _ _).trans (List.perm_append_comm (l₁ := [p]) (l₂ := l))
structure Inv (cs : List (List Pr2)) (en : Int) (rest : List Pr2) : Prop where
  shape : (cs = [] ∧ en = 0) ∨ ∃ init last, cs = init ++ [last] ∧ (∃ o ∈ last, o.2 = en) ∧ (∀ q ∈ last, q.2 ≤ en) ∧ ∀ c ∈ init, ∀ q ∈ c, ∀ r ∈ rest, q.2 ≤ r.1
  heads : headsUp cs
  each : ∀ c ∈ cs, c ≠ [] ∧ Up c ∧ ∀ q ∈ c, wideB q = true ∧ ∀ r ∈ rest, lt2 q r
theorem heads_snoc {cs : List (List Pr2)} {p : Pr2} {t : List Pr2} (h : headsUp cs) (h2 : ∀ c ∈ cs, c ≠ [] ∧ ∀ q ∈ c, lt2 q p) : headsUp (cs ++ [p :: t]) := by
  refine List.pairwise_append.mpr ⟨h, List.pairwise_singleton _ _, fun a ha b hb => ?_⟩
  rw [List.mem_singleton] at hb
  subst hb
  obtain ⟨z1, z2⟩ := h2 a ha
  cases a with
  | nil => exact (z1 rfl).elim
  | cons x a => exact ⟨x, a, p, t, rfl, rfl, z2 x List.mem_cons_self⟩
theorem run_go : ∀ (rest : List Pr2) (cs : List (List Pr2)) (en : Int), Up rest → (∀ r ∈ rest, wideB r = true ∧ Good r) → Inv cs en rest → runC cs rest = goClubs cs en rest ∧ headsUp (runC cs rest)
  | [], cs, en, _, _, hi => ⟨rfl, hi.heads⟩
  | p :: rest, cs, en, hu, hw, hi => by
    obtain ⟨hpw, hpg⟩ := hw p List.mem_cons_self
    have hu' := List.pairwise_cons.mp hu
    have wp := hpw
    simp only [wideB, decide_eq_true_eq] at wp
    have gp := hpg
    unfold Good at gp
    have hw' : ∀ r ∈ rest, wideB r = true ∧ Good r := fun r hr => hw r (List.mem_cons_of_mem _ hr)
    have le1 : ∀ r ∈ rest, p.1 ≤ r.1 := fun r hr => by
      have := hu'.1 r hr
      unfold lt2 at this
      omega
    rcases hi.shape with ⟨rfl, rfl⟩ | ⟨init, last, rfl, ⟨o, ho, hoe⟩, hmax, hinit⟩
    · have e1 : stepC [] p = [[p]] := by simp [stepC, awayL, grownL]
      have e2 : goClubs [] 0 (p :: rest) = goClubs [[p]] p.2 rest := by
        simp only [goClubs, true_or, if_true, List.nil_append]
        rw [Int.max_eq_right (by omega)]
      rw [e2]
      show runC (stepC [] p) rest = _ ∧ _
      rw [e1]
      have := run_go rest [[p]] p.2 hu'.2 hw' ⟨.inr ⟨[], [p], rfl, ⟨p, List.mem_cons_self, rfl⟩, by simp, by simp⟩, List.pairwise_singleton _ _, by
        intro c hc
        rw [List.mem_singleton] at hc
        subst hc
        refine ⟨by simp, List.pairwise_singleton _ _, fun q hq => ?_⟩
        rw [List.mem_singleton] at hq
        subst hq
        exact ⟨hpw, hu'.1⟩⟩
      refine ⟨this.1, ?_⟩
      show headsUp (runC (stepC [] p) rest)
      rw [e1]
      exact this.2
    · have hI : ∀ c ∈ init, shC p c = false := fun c hc => by
        refine List.any_eq_false.mpr fun q hq => ?_
        obtain ⟨z1, z2⟩ := (hi.each c (List.mem_append_left _ hc)).2.2 q hq
        rw [share_iff hpw z1 (z2 p List.mem_cons_self)]
        have := hinit c hc q hq p List.mem_cons_self
        simp
        omega
      obtain ⟨l1, l2, l3⟩ := hi.each last (by simp)
      have hL : shC p last = decide (p.1 < en) := by
        by_cases hz : p.1 < en
        · rw [decide_eq_true hz]
          refine List.any_eq_true.mpr ⟨o, ho, ?_⟩
          rw [share_iff hpw (l3 o ho).1 ((l3 o ho).2 p List.mem_cons_self)]
          simp
          omega
        · rw [decide_eq_false hz]
          refine List.any_eq_false.mpr fun q hq => ?_
          rw [share_iff hpw (l3 q hq).1 ((l3 q hq).2 p List.mem_cons_self)]
          have := hmax q hq
          simp
          omega
      have fI : init.filter (shC p) = [] := List.filter_eq_nil_iff.mpr fun c hc => by rw [hI c hc]; decide
      have aI : init.filter (fun c => !shC p c) = init := List.filter_eq_self.mpr fun c hc => by rw [hI c hc]; rfl
      have hlt : ∀ q ∈ last, lt2 q p := fun q hq => (l3 q hq).2 p List.mem_cons_self
      by_cases hz : p.1 < en
      · have e1 : stepC (init ++ [last]) p = init ++ [last ++ [p]] := by
          have hL' : shC p last = true := by rw [hL]; exact decide_eq_true hz
          simp only [stepC, awayL, grownL, List.filter_append, fI, aI, List.filter_cons, hL', List.filter_nil]
          simp [srt_snoc l2 hlt]
        have e2 : goClubs (init ++ [last]) en (p :: rest) = goClubs (init ++ [last ++ [p]]) (max en p.2) rest := by
          simp only [goClubs]
          rw [if_neg (by simp; omega), addL_snoc]
        rw [e2]
        show runC (stepC _ p) rest = _ ∧ headsUp (runC (stepC _ p) rest)
        rw [e1]
        refine run_go rest _ _ hu'.2 hw' ⟨.inr ⟨init, last ++ [p], rfl, ?_, ?_, ?_⟩, ?_, ?_⟩
        · by_cases hm : en ≤ p.2
          · exact ⟨p, by simp, by omega⟩
          · exact ⟨o, by simp [ho], by omega⟩
        · intro q hq
          rcases List.mem_append.mp hq with hq | hq
          · have := hmax q hq; omega
          · rw [List.mem_singleton] at hq; subst hq; omega
        · exact fun c hc q hq r hr => hinit c hc q hq r (List.mem_cons_of_mem _ hr)
        · have hh := List.pairwise_append.mp hi.heads
          refine List.pairwise_append.mpr ⟨hh.1, List.pairwise_singleton _ _, fun a ha b hb => ?_⟩
          rw [List.mem_singleton] at hb
          subst hb
          obtain ⟨x, xs, y, ys, r1, r2, r3⟩ := hh.2.2 a ha last (by simp)
          exact ⟨x, xs, y, ys ++ [p], r1, by rw [r2]; rfl, r3⟩
        · intro c hc
          rcases List.mem_append.mp hc with hc | hc
          · obtain ⟨z1, z2, z3⟩ := hi.each c (List.mem_append_left _ hc)
            exact ⟨z1, z2, fun q hq => ⟨(z3 q hq).1, fun r hr => (z3 q hq).2 r (List.mem_cons_of_mem _ hr)⟩⟩
          · rw [List.mem_singleton] at hc
            subst hc
            refine ⟨by simp, up_snoc l2 hlt, fun q hq => ?_⟩
            rcases List.mem_append.mp hq with hq | hq
            · exact ⟨(l3 q hq).1, fun r hr => (l3 q hq).2 r (List.mem_cons_of_mem _ hr)⟩
            · rw [List.mem_singleton] at hq; subst hq; exact ⟨hpw, hu'.1⟩
      · have e1 : stepC (init ++ [last]) p = (init ++ [last]) ++ [[p]] := by
          have hL' : shC p last = false := by rw [hL]; exact decide_eq_false hz
          simp only [stepC, awayL, grownL, List.filter_append, fI, aI, List.filter_cons, hL', List.filter_nil]
          simp
        have e2 : goClubs (init ++ [last]) en (p :: rest) = goClubs ((init ++ [last]) ++ [[p]]) p.2 rest := by
          simp only [goClubs]
          rw [if_pos (.inr (by omega)), Int.max_eq_right (by omega)]
        rw [e2]
        show runC (stepC _ p) rest = _ ∧ headsUp (runC (stepC _ p) rest)
        rw [e1]
        refine run_go rest _ _ hu'.2 hw' ⟨.inr ⟨init ++ [last], [p], rfl, ⟨p, by simp, rfl⟩, by simp, ?_⟩, ?_, ?_⟩
        · intro c hc q hq r hr
          rcases List.mem_append.mp hc with hc | hc
          · exact hinit c hc q hq r (List.mem_cons_of_mem _ hr)
          · rw [List.mem_singleton] at hc
            subst hc
            have := hmax q hq
            have := le1 r hr
            omega
        · exact heads_snoc hi.heads fun c hc => ⟨(hi.each c hc).1, fun q hq => ((hi.each c hc).2.2 q hq).2 p List.mem_cons_self⟩
        · intro c hc
          rcases List.mem_append.mp hc with hc | hc
          · obtain ⟨z1, z2, z3⟩ := hi.each c hc
            exact ⟨z1, z2, fun q hq => ⟨(z3 q hq).1, fun r hr => (z3 q hq).2 r (List.mem_cons_of_mem _ hr)⟩⟩
          · rw [List.mem_singleton] at hc
            subst hc
            refine ⟨by simp, List.pairwise_singleton _ _, fun q hq => ?_⟩
            rw [List.mem_singleton] at hq; subst hq; exact ⟨hpw, hu'.1⟩
theorem law_clubs {n : Nat} {ps : List Pr2} {Q : QD} {E : Ex} (hu : Up ps) (hg : ∀ p ∈ ps, Good p) (hl : ps.length ≤ 400) (h : Q (.tuple ((clubs ps).map clubD))) : W (n + 2) f__law_clubs [.tuple ((wide ps).map prD)] Q E := by
  obtain ⟨e, hh⟩ := run_go (wide ps) [] 0 (hu.filter _) (fun r hr => ⟨(List.mem_filter.mp hr).2, hg r (List.mem_filter.mp hr).1⟩) ⟨.inl ⟨rfl, rfl⟩, List.Pairwise.nil, fun c hc => (nomatch hc)⟩
  refine law_clubs0 (Nat.le_trans (List.length_filter_le _ _) hl) hh (fun c _ => ?_) ?_
  · have hs : sh (.list (c.map prD)) := shd_sh (shd_prl (k := 0)) (by decide)
    exact hs
  · rw [e]; exact h
end K01.P

set_option maxHeartbeats 1000000
namespace K01.P
open PySem Uq
abbrev Kq (Q : QD) (E : Ex) : K := ⟨fun _ => Q .none, Q, fun _ => False, fun _ => False, fun c fs _ => E c fs⟩
def mk (N : Nat) (f : Int → Bool) : List D := (List.range N).map fun k : Nat => .bool (f (k : Int))
/-- rows that the law asks about -/
theorem mk_len {N : Nat} {f : Int → Bool} : (mk N f).length = N := by simp [mk]
theorem noLs_mk {N : Nat} {f : Int → Bool} : noLs (mk N f) = true := by
  unfold mk
  generalize List.range N = l
  induction l with
  | nil => rfl
  | cons x l ih => rw [List.map_cons, noLs_cons, ih]; rfl
theorem mk_set {N i : Nat} {f : Int → Bool} : (mk N f).set i (.bool true) = mk N fun k => f k || decide (k = i) := by
  refine List.ext_getElem? fun j => ?_
  simp only [mk, List.getElem?_set, List.getElem?_map, List.length_map, List.length_range]
  by_cases hj : j < N
  · by_cases hi : i = j
    · subst hi; simp [hj]
    · have : ¬ ((j : Int) = i) := by omega
      simp [hj, hi, this]
  · by_cases hi : i = j
    · subst hi; simp [hj]
    · simp [hj, hi]
theorem mk_rep {N : Nat} {f : Int → Bool} (h : ∀ k, f k = false) : List.replicate N (.bool false) = mk N f := by
  refine List.ext_getElem? fun j => ?_
  simp only [mk, List.getElem?_map, List.getElem?_replicate]
  by_cases hj : j < N
  · simp [hj, h]
  · simp [hj]
theorem mk_congr {N : Nat} {f g : Int → Bool} (h : ∀ k, f k = g k) : mk N f = mk N g := by rw [show f = g from funext h]
theorem mk_at {N : Nat} {f : Int → Bool} {k : Int} (h0 : 0 ≤ k) (h1 : k < N) : L2.atI (mk N f) k = some (.bool (f k)) := by
  unfold L2.atI L2.ixN
  rw [mk_len, if_pos h0, if_pos h1]
  have : k.toNat < N := by omega
  have e : ((k.toNat : Nat) : Int) = k := by omega
  simp [mk, this, e]
theorem endP_uniq0 {ps : List Pr2} {m : Int} (h1 : m ∈ 0 :: ps.map (·.2)) (h2 : ∀ y ∈ 0 :: ps.map (·.2), y ≤ m) : m = endP ps := by
  have g1 := endP_ge (ps := ps)
  have z0 := h2 0 List.mem_cons_self
  have up : endP ps ≤ m := by
    rcases endP_mem (ps := ps) with z | ⟨q, hq, z⟩
    · omega
    · have := h2 q.2 (List.mem_cons_of_mem _ (List.mem_map.mpr ⟨q, hq, rfl⟩)); omega
  rcases List.mem_cons.mp h1 with rfl | h1
  · omega
  · obtain ⟨p, hp, rfl⟩ := List.mem_map.mp h1
    have := g1.2 p hp
    omega
structure Row (ps : List Pr2) : Prop where
  up : Up ps
  good : ∀ p ∈ ps, Good p
  len : ps.length ≤ 100
  ends : ∀ p ∈ ps, p.2 ≤ 1000
theorem noLs_clubs : ∀ cs : List (List Pr2), noLs (cs.map clubD) = true
  | [] => rfl
  | c :: cs => by rw [List.map_cons, noLs_cons, noLs_clubs cs, Bool.and_true]; exact noLs_prs c
def coverD (ps : List Pr2) : D → Bool
  | .int k => cover ps k
  | _ => false
theorem filt_cover (ps : List Pr2) (m : Nat) : (upto 0 m).filter (coverD ps) = ((upI 0 m).filter (cover ps)).map .int := by
  rw [← upI_upto, List.filter_map]
  rfl
def duesD (ps : List Pr2) : List D := [.tuple [.str "wide_asks", .tuple ((wide ps).map prD)], .tuple [.str "clubs_of", .tuple ((clubs ps).map clubD)], .tuple [.str "longest_end", .int (endP ps)], .tuple [.str "covered", .tuple ((coverL ps).map .int)], .tuple [.str "order_fault", faultD (fault ps)]]
theorem len_flat {c : List Pr2} : ∀ {cs : List (List Pr2)}, c ∈ cs → c.length ≤ cs.flatten.length
  | d :: cs, h => by
    rw [List.flatten_cons, List.length_append]
    rcases List.mem_cons.mp h with rfl | h
    · omega
    · have := len_flat h
      omega
theorem size_run : ∀ (rest : List Pr2) (cs : List (List Pr2)), size (runC cs rest) ≤ size cs + 2 * rest.length
  | [], cs => by show size cs ≤ _; omega
  | p :: rest, cs => by
    have h1 := size_run rest (stepC cs p)
    have h2 := size_step (cs := cs) (p := p)
    show size (runC (stepC cs p) rest) ≤ _
    rw [List.length_cons]
    omega
theorem five_short {ps : List Pr2} (r : Row ps) : ∀ d ∈ [PyData.tuple ((wide ps).map prD), .tuple ((clubs ps).map clubD), .int (endP ps), .tuple ((coverL ps).map .int), faultD (fault ps)], short 3 d := by
  intro d hd
  have hl := r.len
  have g1 : endP ps ≤ 1000 := by
    rcases endP_mem (ps := ps) with z | ⟨q, hq, z⟩
    · omega
    · have := r.ends q hq; omega
  simp only [List.mem_cons, List.not_mem_nil, or_false] at hd
  have wl : (wide ps).length ≤ 100 := Nat.le_trans (List.length_filter_le _ _) hl
  rcases hd with rfl | rfl | rfl | rfl | rfl
  · exact short_prs (k := 1) (by omega)
  · obtain ⟨e, _⟩ := run_go (wide ps) [] 0 (r.up.filter _) (fun q hq => ⟨(List.mem_filter.mp hq).2, r.good q (List.mem_filter.mp hq).1⟩) ⟨.inl ⟨rfl, rfl⟩, List.Pairwise.nil, fun c hc => (nomatch hc)⟩
    have hz := size_run (wide ps) []
    rw [e] at hz
    have hz : size (clubs ps) ≤ 200 := Nat.le_trans hz (by show 0 + 2 * _ ≤ 200; omega)
    unfold size at hz
    refine short_tup (by rw [List.length_map]; omega) fun x hx => ?_
    obtain ⟨c, hc, rfl⟩ := List.mem_map.mp hx
    have := len_flat hc
    exact short_prs (k := 0) (by omega)
  · exact short_int
  · refine short_tup (k := 2) ?_ fun x hx => ?_
    · have : (coverL ps).length ≤ (upI 0 (endP ps).toNat).length := List.length_filter_le _ _
      rw [upI_len] at this
      rw [List.length_map]
      omega
    · obtain ⟨c, hc, rfl⟩ := List.mem_map.mp hx
      exact short_int
  · cases fault ps with
    | none => exact short_none
    | some pq =>
      refine short_tup (k := 2) (by show 2 ≤ 1000; decide) fun x hx => ?_
      simp at hx
      rcases hx with rfl | rfl <;> exact short_pr
theorem runA_ok : ∀ (ds : List D) (p : Pr2) (k : Nat), (runA p k ds).good = true → runA p k ds = .ok ((k + ds.length : Nat) : Int)
  | [], p, k, _ => rfl
  | d :: ds, p, k, h => by
    unfold runA at h ⊢
    cases e : str? d with
    | none => rw [e] at h; cases h
    | some q =>
      rw [e] at h
      simp only at h ⊢
      by_cases c : ltP p.1 p.2 q.1 q.2 = true
      · rw [if_pos c] at h ⊢
        rw [runA_ok ds q (k + 1) h, List.length_cons]
        congr 2
        omega
      · rw [if_neg c] at h
        cases h
theorem lets_row {ps : List Pr2} (r : Row ps) : letsA (.tuple (ps.map prD)) = .ok (ps.length : Int) := by
  have hg := letsA_good (.tuple (ps.map prD))
  have ha : isAsks (.tuple (ps.map prD)) = true := by
    rw [isAsks_eq, asks_of r.up r.good]; rfl
  rw [ha] at hg
  have := runA_ok (ps.map prD) (-1, -1) 0 hg
  rw [List.length_map, Nat.zero_add] at this
  exact this
theorem rows_end {n : Nat} {ps : List Pr2} {Q : QD} {E : Ex} (r : Row ps) (h : Q (.bool true)) : wSs ⟨wC T sub flds (n + 8), sub, flds⟩ (((fn__law_rows.body.drop 1).drop 1).drop 3) [.va (.tuple (ps.map prD)), .va (.tuple ((wide ps).map prD)), .no, .va (.int (endP ps)), .ol (mk (endP ps).toNat (cover ps)), .no, .no, .no, .no, .no] (Kq Q E) := by
  have g0 := (endP_ge (ps := ps)).1
  have g1 : endP ps ≤ 1000 := by
    rcases endP_mem (ps := ps) with z | ⟨q, hq, z⟩
    · omega
    · have := r.ends q hq; omega
  refine wSs_cut 2 ?_
  generalize hr : (((fn__law_rows.body.drop 1).drop 1).drop 3).drop 2 = rest
  have key : ∀ s1 s3 s4, wSs ⟨wC T sub flds (n + 8), sub, flds⟩ rest [.va (.tuple (ps.map prD)), s1, .no, s3, s4, .no, .ol (duesD ps), .no, .no, .no] (Kq Q E) := by
    intro s1 s3 s4
    subst hr
    simp [fn__law_rows]
    have hs : sh (.tuple (ps.map prD)) := sh_prs
    have ea : asks? (.tuple (ps.map prD)) = some ps := asks_of r.up r.good
    have no : ∀ {P : Prop}, asks? (.tuple (ps.map prD)) = none → P := fun z => by rw [ea] at z; cases z
    have yes : ∀ {P : List Pr2 → Prop}, P ps → ∀ qs, asks? (.tuple (ps.map prD)) = some qs → P qs := fun hp qs z => by
      rw [ea] at z; cases z; exact hp
    have hl := r.len
    refine frW_ind (I := fun es ρ => (∀ x ∈ es, x ∈ duesD ps) ∧ ∃ s8, ρ = [.va (.tuple (ps.map prD)), .no, .no, .no, .no, .no, .va (.list (duesD ps)), .no, s8, .no]) ?_ ?_ _ _ ⟨fun x hx => hx, _, rfl⟩
    · rintro ρ ⟨_, s8, rfl⟩
      simp
      refine wide_asks (n := n + 2) hs no (yes ⟨by omega, ?_⟩)
      refine clubs_of (n := n + 1) hs no (yes ⟨by omega, ?_⟩)
      refine longest_end (n := n + 2) hs no (yes ⟨by omega, ?_⟩)
      refine covered (n := n + 2) hs no (yes ⟨⟨by omega, r.ends⟩, ?_⟩)
      refine order_fault (n := n + 2) hs (yes ?_) no
      simp [noLs_prs, noLs_clubs, noLs_ints, noL_fault, frzIt, tgI, nms, nmsL]
      refine lcG_map sndD _ [] (fun y hy R hR => ?_) (by show 0 + 5 ≤ sizeLine; exact le_size (by decide)) ?_
      · simp only [duesD, List.mem_cons, List.not_mem_nil, or_false] at hy
        rcases hy with rfl | rfl | rfl | rfl | rfl <;> (simp; exact hR)
      · have e5 : (duesD ps).map sndD = [PyData.tuple ((wide ps).map prD), .tuple ((clubs ps).map clubD), .int (endP ps), .tuple ((coverL ps).map .int), faultD (fault ps)] := rfl
        rw [e5]
        simp
        refine same (n := n + 3) 4 (short_tup (k := 3) (by show 5 ≤ 1000; decide) (five_short r)) ?_
        simp
        refine lets_asks (n := n + 4) hs ?_
        rw [lets_row r]
        exact same (n := n + 6) 1 short_int h
    · rintro x es ρ R ⟨hx, s8, rfl⟩ hR
      have hnx : R [.va (.tuple (ps.map prD)), .no, .no, .no, .no, .no, .va (.list (duesD ps)), .no, .va x, .no] := hR _ ⟨fun y hy => hx y (List.mem_cons_of_mem _ hy), _, rfl⟩
      have hm := hx x List.mem_cons_self
      simp only [duesD, List.mem_cons, List.not_mem_nil, or_false] at hm
      have sm : ∀ {d : D} {Q' : QD} {E' : Ex}, d ∈ [PyData.tuple ((wide ps).map prD), .tuple ((clubs ps).map clubD), .int (endP ps), .tuple ((coverL ps).map .int), faultD (fault ps)] → Q' (.bool true) → W (n + 8) f__law_same [okD d, okD d] Q' E' := fun hd hq => same (n := n + 3) 4 (short_tup (k := 3) (by show 2 ≤ 1000; decide) fun x hx => by
        simp at hx
        rcases hx with rfl | rfl
        · exact short_str
        · exact five_short r _ hd) hq
      rcases hm with rfl | rfl | rfl | rfl | rfl
      · simp
        refine call_wide (n := n + 1) hs no (yes ⟨by omega, ?_⟩)
        refine sm (by simp) ?_
        simpa using hnx
      · simp
        refine call_clubs (n := n) hs no (yes ⟨by omega, ?_⟩)
        refine sm (by simp) ?_
        simpa using hnx
      · simp
        refine call_longest (n := n + 1) hs no (yes ⟨by omega, ?_⟩)
        refine sm (by simp) ?_
        simpa using hnx
      · simp
        refine call_covered (n := n + 1) hs no (yes ⟨⟨by omega, r.ends⟩, ?_⟩)
        refine sm (by simp) ?_
        simpa using hnx
      · simp
        refine call_fault (n := n + 1) hs no (yes ?_)
        refine sm (by simp) ?_
        simpa using hnx
  simp [fn__law_rows]
  refine law_clubs (n := n + 6) r.up r.good (by have := r.len; omega) ?_
  simp [noLs_prs, noLs_clubs, frzIt, tgI, nms, nmsL]
  refine ⟨⟨by omega, by omega⟩, ?_⟩
  refine lcG_filt (fun d => d) (coverD ps) _ [] (fun y hy R N hp hn => ?_) (by rw [List.length_nil, upto_len]; exact le_size (by omega)) ?_
  · rw [← upI_upto] at hy
    obtain ⟨k, hk, rfl⟩ := List.mem_map.mp hy
    obtain ⟨k0, k1⟩ := upI_mem.mp hk
    have hat : L2.atI (mk (endP ps).toNat (cover ps)) k = some (.bool (cover ps k)) := mk_at k0 (by omega)
    have hp : cover ps k = true → R (.int k) := hp
    have hn : cover ps k = false → N := hn
    simp [hat]
    cases e : cover ps k with
    | true => simpa using hp e
    | false => simpa using hn e
  · have e3 : ∀ l : List D, List.map (fun d : D => d) l = l := fun l => List.map_id' _
    rw [filt_cover, e3]
    have e4 : (upI 0 (endP ps).toNat).filter (cover ps) = coverL ps := rfl
    rw [e4]
    simp
    refine law_fault (n := n + 7) r.up ?_
    refine ⟨le_size (by decide), ?_⟩
    simp [noLs_prs, noLs_clubs, noLs_ints, noL_fault]
    exact key _ _ _
theorem law_rows {n : Nat} {ps : List Pr2} {Q : QD} {E : Ex} (r : Row ps) (h : Q (.bool true)) : W (n + 9) f__law_rows [.tuple (ps.map prD)] Q E := by
  refine wC_of (fn := fn__law_rows) rfl rfl ?_
  refine wSs_cut 1 ?_
  generalize hr : fn__law_rows.body.drop 1 = rest
  have key : ∀ s2, wSs ⟨wC T sub flds (n + 8), sub, flds⟩ rest [.va (.tuple (ps.map prD)), .va (.tuple ((wide ps).map prD)), s2, .no, .no, .no, .no, .no, .no, .no] (Kq Q E) := by
    intro s2
    subst hr
    refine wSs_cut 1 ?_
    generalize hr : (fn__law_rows.body.drop 1).drop 1 = rest
    have key : ∀ s2, wSs ⟨wC T sub flds (n + 8), sub, flds⟩ rest [.va (.tuple (ps.map prD)), .va (.tuple ((wide ps).map prD)), s2, .va (.int (endP ps)), .no, .no, .no, .no, .no, .no] (Kq Q E) := by
      intro s2
      subst hr
      refine wSs_cut 3 ?_
      generalize hr : ((fn__law_rows.body.drop 1).drop 1).drop 3 = rest
      have key : wSs ⟨wC T sub flds (n + 8), sub, flds⟩ rest [.va (.tuple (ps.map prD)), .va (.tuple ((wide ps).map prD)), .no, .va (.int (endP ps)), .ol (mk (endP ps).toNat (cover ps)), .no, .no, .no, .no, .no] (Kq Q E) := by
        subst hr
        exact rows_end r h
      have g0 := (endP_ge (ps := ps)).1
      have g1 : endP ps ≤ 1000 := by
        rcases endP_mem (ps := ps) with z | ⟨q, hq, z⟩
        · omega
        · have := r.ends q hq; omega
      simp [fn__law_rows]
      refine ⟨⟨by omega, by omega, by have : 1000 ≤ sizeLine := le_size (by decide)
                                      omega⟩, ?_⟩
      rw [mk_rep (f := cover []) (fun _ => rfl)]
      simp [noLs_mk, frzIt, nms, nmsL]
      refine frW_ind (I := fun es ρ => ∃ (done todo : List Pr2) (s2 s5 : Sl), ps = done ++ todo ∧ es = todo.map prD ∧ ρ = [.va (.tuple (ps.map prD)), .va (.tuple ((wide ps).map prD)), s2, .va (.int (endP ps)), .ol (mk (endP ps).toNat (cover done)), s5, .no, .no, .no, .no]) ?_ ?_ _ _ ⟨[], ps, _, _, rfl, rfl, rfl⟩
      · rintro ρ ⟨done, todo, s2, s5, ed, e, rfl⟩
        have : todo = [] := by cases todo <;> first | rfl | cases e
        subst this
        rw [List.append_nil] at ed
        subst ed
        simp
        exact key
      · rintro x es ρ R ⟨done, todo, s2, s5, ed, e, rfl⟩ hR
        cases todo with
        | nil => cases e
        | cons p todo =>
          rw [List.map_cons] at e
          obtain ⟨rfl, rfl⟩ := List.cons.inj e
          have hp : p ∈ ps := by rw [ed]; simp
          have gp := r.good p hp
          unfold Good at gp
          have pe := (endP_ge (ps := ps)).2 p hp
          have e1 : prD p = .tuple [.int p.1, .int p.2] := rfl
          simp [e1]
          refine ⟨⟨by omega, by omega, by omega, by omega⟩, ?_⟩
          rw [show upto p.1 (p.2 - p.1).toNat = upto (p.1 + ((0 : Nat) : Int)) (p.2 - p.1).toNat from by simp]
          refine frW_upto (lo := p.1) (m := (p.2 - p.1).toNat) (I := fun j ρ => ∃ (s5 : Sl), ρ = [.va (.tuple (ps.map prD)), .va (.tuple ((wide ps).map prD)), .va (prD p), .va (.int (endP ps)), .ol (mk (endP ps).toNat fun k => cover done k || (decide (p.1 ≤ k) && decide (k < p.1 + j))), s5, .no, .no, .no, .no]) ?_ ?_ (p.2 - p.1).toNat 0 _ (by omega) ⟨.no, ?_⟩
          · rintro ρ ⟨s5, rfl⟩
            simp
            refine hR _ ⟨done ++ [p], todo, .no, .no, by rw [ed]; simp, rfl, ?_⟩
            rw [mk_congr (g := cover (done ++ [p])) fun k => ?_]
            rw [cover_app]
            have : cover [p] k = (decide (p.1 ≤ k) && decide (k < p.2)) := by simp [cover]
            rw [this, show p.1 + max (p.2 - p.1) 0 = p.2 from by omega]
          · rintro j ρ R' hj ⟨s5, rfl⟩ hR'
            simp
            refine ⟨(p.1 + j).toNat, ?_, ?_⟩
            · rw [mk_len]
              unfold L2.ixN
              rw [if_pos (by omega), if_pos (by omega)]
            · refine hR' _ ⟨.no, ?_⟩
              rw [mk_set, e1, mk_congr (g := fun k => cover done k || (decide (p.1 ≤ k) && decide (k < p.1 + ((j + 1 : Nat) : Int)))) fun k => ?_]
              cases cover done k
              · simp only [Bool.false_or]
                rw [Bool.eq_iff_iff]
                simp only [Bool.or_eq_true, Bool.and_eq_true, decide_eq_true_eq]
                omega
              · simp
          · rw [e1, mk_congr (f := fun k => cover done k || (decide (p.1 ≤ k) && decide (k < p.1 + ((0 : Nat) : Int)))) (g := cover done) fun k => ?_]
            have : (decide (p.1 ≤ k) && decide (k < p.1 + ((0 : Nat) : Int))) = false := by
              rw [Bool.and_eq_false_iff]
              simp only [decide_eq_false_iff_not]
              omega
            rw [this, Bool.or_false]
    simp [fn__law_rows, frzIt, tgI, nms, nmsL]
    refine lcG_map sndD _ [] (fun y hy R hR => ?_) (by rw [List.length_nil, List.length_map]; exact le_size (by have := r.len; omega)) ?_
    · obtain ⟨p, _, rfl⟩ := List.mem_map.mp hy
      have e1 : prD p = .tuple [.int p.1, .int p.2] := rfl
      rw [e1] at hR ⊢
      simp
      exact hR
    · have e2 : (ps.map prD).map sndD = (ps.map (·.2)).map PyData.int := by rw [List.map_map, List.map_map]; rfl
      simp only [List.nil_append]
      rw [e2]
      simp
      refine ⟨le_size (by have := r.len; omega), 0 :: ps.map (·.2), ?_, by simp, fun m m1 m2 => ?_⟩
      · have : ∀ ks : List Int, ints? (ks.map PyData.int) = some ks := fun ks => by
          induction ks with
          | nil => rfl
          | cons k ks ih => simp [ints?, ih]
        have := this (0 :: ps.map (·.2))
        rwa [List.map_cons, List.map_map] at this
      · rw [endP_uniq0 m1 m2]
        simp
        exact key _
  simp [fn__law_rows, frzIt, tgI, nms, nmsL]
  refine lcG_filt (fun d => d) wideD _ [] (fun y hy R N hp hn => ?_) (by rw [List.length_nil, List.length_map]; exact le_size (by have := r.len; omega)) ?_
  · obtain ⟨p, _, rfl⟩ := List.mem_map.mp hy
    have e1 : prD p = .tuple [.int p.1, .int p.2] := rfl
    by_cases c : 2 ≤ p.2 - p.1
    · have := hp (by simp [e1, wideD, c])
      simpa [e1, c] using this
    · have := hn (by simp [e1, wideD, c])
      simpa [e1, c] using this
  · have e3 : List.map (fun d : D => d) ((wide ps).map prD) = (wide ps).map prD := List.map_id' _
    rw [filt_wide, e3]
    simp [noLs_prs]
    exact key _
end K01.P

set_option maxHeartbeats 1000000
namespace K01.P
open PySem Uq
/-- what the law's turns want of a spoilt thing -/
def Spo (d : D) : Prop := sh d ∧ ∀ ds, d = .tuple ds → ds.length ≤ 1000
def Al (l : List D) : Prop := ∀ x ∈ l, shd 4 x
theorem spo_tup {l : List D} (h : Al l) (hl : l.length ≤ 1000) : Spo (.tuple l) :=
  ⟨shd_sh (shd_tup h) (by decide), fun ds e => by cases e; exact hl⟩
theorem Al.app {a b : List D} (h1 : Al a) (h2 : Al b) : Al (a ++ b) := fun x hx => by
  rcases List.mem_append.mp hx with z | z
  · exact h1 x z
  · exact h2 x z
theorem Al.take {a : List D} (h : Al a) (k : Nat) : Al (a.take k) := fun x hx => h x (List.mem_of_mem_take hx)
theorem Al.drop {a : List D} (h : Al a) (k : Nat) : Al (a.drop k) := fun x hx => h x (List.mem_of_mem_drop hx)
theorem Al.rev {a : List D} (h : Al a) : Al a.reverse := fun x hx => h x (List.mem_reverse.mp hx)
theorem Al.cons {a : D} {l : List D} (h : Al l) (ha : shd 4 a) : Al (a :: l) := fun x hx => by
  rcases List.mem_cons.mp hx with rfl | z
  · exact ha
  · exact h x z
theorem Al.one {a : D} (h : shd 4 a) : Al [a] := fun x hx => by rw [List.mem_singleton] at hx; subst hx; exact h
theorem w_01 : PyData.canLay0 (.str "0-1") = true := by decide +kernel
theorem w_0112 : PyData.canLay0 (.str "0-1 1-2") = true := by decide +kernel
def bads : List D := [.tuple [.int 2, .int 2], .tuple [.int 3, .int 1], .list [.int 0, .int 1], .tuple [.int 0, .bool true], .tuple [.int 0, .int 1, .int 2], .none, .str "0-1", .tuple [.int (-1), .int 2], .int 5, .tuple []]
theorem bads_al : Al bads := by
  intro x hx
  simp only [bads, List.mem_cons, List.not_mem_nil, or_false] at hx
  rcases hx with rfl | rfl | rfl | rfl | rfl | rfl | rfl | rfl | rfl | rfl <;> first | exact ⟨rfl, Nat.le_of_ble_eq_true rfl⟩ | exact ⟨w_01, Nat.le_of_ble_eq_true rfl⟩
theorem law_spoilt {n : Nat} {ps : List Pr2} {pick : Int} {Q : QD} {E : Ex} (hl : ps.length ≤ 100) (h : ∀ ds : List D, ds.length ≤ 1000 → (∀ d ∈ ds, Spo d) → Q (.list ds)) : W (n + 1) f__law_spoilt [.tuple (ps.map prD), .int pick] Q E := by
  have hal : Al (ps.map prD) := fun x hx => by
    obtain ⟨p, _, rfl⟩ := List.mem_map.mp hx
    exact shd_pr
  have hlen : (ps.map prD).length = ps.length := List.length_map _
  have hn0 := noLs_prs ps
  refine wC_of (fn := fn__law_spoilt) rfl rfl ?_
  refine wSs_cut 2 ?_
  generalize hr : fn__law_spoilt.body.drop 2 = rest
  have key : ∀ a : Int, 0 ≤ a → wSs ⟨wC T sub flds n, sub, flds⟩ rest [.va (.tuple (ps.map prD)), .va (.int pick), .va (.int a), .ol bads, .no, .no, .no] (Kq Q E) := by
    intro a ha
    subst hr
    refine wSs_cut 1 ?_
    generalize hr : (fn__law_spoilt.body.drop 2).drop 1 = rest
    have key : ∀ (s3 : Sl) (b : D), (s3 = .ol bads ∨ s3 = .va (.list bads)) → shd 4 b → wSs ⟨wC T sub flds n, sub, flds⟩ rest [.va (.tuple (ps.map prD)), .va (.int pick), .va (.int a), s3, .va (.tuple [b]), .no, .no] (Kq Q E) := by
      intro s3 b hs3 hb
      subst hr
      refine wSs_cut 1 ?_
      generalize hr : ((fn__law_spoilt.body.drop 2).drop 1).drop 1 = rest
      have key : ∀ (s3 : Sl) (w : D), shd 4 w → wSs ⟨wC T sub flds n, sub, flds⟩ rest [.va (.tuple (ps.map prD)), .va (.int pick), .va (.int a), s3, .va (.tuple [b]), .va (.tuple [w]), .no] (Kq Q E) := by
        intro s3 w hw
        subst hr
        have c1 : cut (ps.map prD) none (some a) = (ps.map prD).take a.toNat := cut_to ha
        have c2 : cut (ps.map prD) (some a) none = (ps.map prD).drop a.toNat := cut_from ha
        have c3 : cut (ps.map prD) (some (a + 1)) none = (ps.map prD).drop (a + 1).toNat := cut_from (by omega)
        have c4 : cut (ps.map prD) (some 1) none = (ps.map prD).drop 1 := cut1
        have c5 : cut (ps.map prD) none (some 1) = (ps.map prD).take 1 := cutT1
        have c6 : cut ((ps.map prD).drop a.toNat) none (some 1) = ((ps.map prD).drop a.toNat).take 1 := cutT1
        simp [fn__law_spoilt, asgn_lF, nms, nmsL, c1, c2, c3, c4, c5, c6, -List.map_take, -List.map_drop]
        have sz : ∀ m : Nat, m ≤ 1000 → m ≤ sizeLine := fun m hm => le_size (by omega)
        repeat (refine ⟨sz _ (by omega), ?_⟩)
        have aE := hal
        have aH := hal.take a.toNat
        have aT := hal.drop a.toNat
        refine h _ (by show 17 ≤ 1000; decide) fun d hd' => ?_
        simp only [List.mem_cons, List.not_mem_nil, or_false] at hd'
        rcases hd' with rfl | rfl | rfl | rfl | rfl | rfl | rfl | rfl | rfl | rfl | rfl | rfl | rfl | rfl | rfl | rfl | rfl
        · exact ⟨shd_sh (k := 5) (shd_lst aE) (by decide), fun ds e => by cases e⟩
        · exact spo_tup (aE.app (aE.take 1)) (by simp; omega)
        · exact spo_tup aE.rev (by simp; omega)
        · exact spo_tup (aH.app (aT.cons hb)) (by simp; omega)
        · exact spo_tup (aH.app ((aT.app (Al.one hw)).cons hb)) (by simp; omega)
        · exact spo_tup (aH.app ((aT.take 1).app aT)) (by simp; omega)
        · exact ⟨sn, fun ds e => by cases e⟩
        · exact spo_tup (Al.one (shd_prs (k := 2))) (by simp)
        · exact spo_tup (aE.app (Al.one (shd_pair shd_int shd_int))) (by simp; omega)
        · exact spo_tup (aT.app aH) (by simp; omega)
        · exact ⟨shd_sh (k := 0) shd_bool (by decide), fun ds e => by cases e⟩
        · exact spo_tup (Al.app (fun x hx => aE x (List.mem_of_mem_tail hx)) (aE.take 1)) (by simp; omega)
        · exact spo_tup (aE.cons hw) (by simp; omega)
        · exact ⟨shd_sh (k := 0) (shd_str w_0112) (by decide), fun ds e => by cases e⟩
        · exact ⟨si _, fun ds e => by cases e⟩
        · exact spo_tup (aH.app (aE.drop _)) (by simp; omega)
        · exact spo_tup (aE.rev.app (Al.one hb)) (by simp; omega)
      have at0 := fmod_in (a := pick.fdiv 613) (b := 10) (by decide)
      obtain ⟨d, hd, hm⟩ := atI_mem (ds := bads) at0.1 at0.2
      have hw := bads_al d hm
      rcases hs3 with rfl | rfl
      · simp [fn__law_spoilt, hd, asgn_f, shr_c, nms, nmsL]
        cases noL d <;> (try simp) <;> exact key _ d hw
      · simp [fn__law_spoilt, hd, asgn_f, shr_c, nms, nmsL]
        cases noL d <;> (try simp) <;> exact key _ d hw
    have at0 := fmod_in (a := pick.fdiv 61) (b := 10) (by decide)
    obtain ⟨b, hb, hbm⟩ := atI_mem (ds := bads) at0.1 at0.2
    have tb := bads_al b hbm
    simp [fn__law_spoilt, hb, asgn_f, shr_c, nms, nmsL]
    cases noL b
    · simp; exact key _ b (.inr rfl) tb
    · simp; exact key _ b (.inl rfl) tb
  simp [fn__law_spoilt, asgn_lF, nms, nmsL]
  exact ⟨by omega, key _ (fmod_in (a := pick) (b := (ps.length : Int) + 1) (by omega)).1⟩
end K01.P

set_option maxHeartbeats 1000000
namespace K01.P
open PySem Uq
theorem good_mul {F G g : Int} (h1 : 0 ≤ F) (h2 : F < G) (h3 : G ≤ 200) (h4 : 1 ≤ g) (h5 : g ≤ 5) : Good (F * g, G * g) ∧ G * g ≤ 1000 := by
  have m1 : 0 ≤ F * g := Int.mul_nonneg h1 (by omega)
  have m2 : F * g < G * g := Int.mul_lt_mul_of_pos_right h2 (by omega)
  have m3 : G * g ≤ 200 * 5 := Int.mul_le_mul h3 h5 (by omega) (by decide)
  refine ⟨⟨m1, ?_, m2⟩, by omega⟩
  show 0 ≤ G * g
  omega
theorem law_stretches {n : Nat} {xs : List Int} {Q : QD} {E : Ex} (hd : Dr xs ([8, 9, 2, 41] ++ List.replicate 120 1000)) (h : ∀ ps : List Pr2, ps.length ≤ 60 → (∀ p ∈ ps, Good p ∧ p.2 ≤ 1000) → Q (.list (ps.map prD))) : W (n + 1) f__law_stretches [.list (xs.map .int)] Q E := by
  obtain ⟨x0, h0, h00, h01⟩ := hd.ix (i := 0) (b := 8) rfl
  obtain ⟨x1, h1, h10, h11⟩ := hd.ix (i := 1) (b := 9) rfl
  obtain ⟨x2, h2, h20, h21⟩ := hd.ix (i := 2) (b := 2) rfl
  obtain ⟨x3, h3, h30, h31⟩ := hd.ix (i := 3) (b := 41) rfl
  have h0 : L2.atI (xs.map PyData.int) 0 = some (.int x0) := h0
  have h1 : L2.atI (xs.map PyData.int) 1 = some (.int x1) := h1
  have h2 : L2.atI (xs.map PyData.int) 2 = some (.int x2) := h2
  have h3 : L2.atI (xs.map PyData.int) 3 = some (.int x3) := h3
  have hix : ∀ i : Int, 4 ≤ i → i < 124 → ∃ x, L2.atI (xs.map PyData.int) i = some (.int x) ∧ 0 ≤ x ∧ x < 1000 := fun i z1 z2 => by
    obtain ⟨x, hx, y⟩ := hd.ix (i := i.toNat) (b := 1000) (by
      have := rep_at [8, 9, 2, 41] (n := 120) (i := i.toNat - 4) (b := (1000 : Int)) (by omega)
      have e : [(8 : Int), 9, 2, 41].length + (i.toNat - 4) = i.toNat := by simp; omega
      rw [e] at this
      exact this)
    have e : ((i.toNat : Nat) : Int) = i := by omega
    rw [e] at hx
    exact ⟨x, hx, y⟩
  refine wC_of (fn := fn__law_stretches) rfl rfl ?_
  refine wSs_cut 3 ?_
  generalize hr : fn__law_stretches.body.drop 3 = rest
  have key : ∀ m g : Int, 0 ≤ m → m ≤ 60 → (x0 < 7 → m ≤ 8) → 1 ≤ g → g ≤ 5 → wSs ⟨wC T sub flds n, sub, flds⟩ rest [.va (.list (xs.map .int)), .va (.int m), .va (.int g), .no, .no, .no, .no, .no, .no, .no, .no] (Kq Q E) := by
    intro m g m0 m1 m2 g0 g1
    subst hr
    have mlg : ∀ x : Int, MulOk x g := fun x => mul_r (by omega) (by omega)
    have ml2 : ∀ x : Int, MulOk 2 x := fun x => mul_l (by decide) (by decide)
    have ml11 : ∀ x : Int, MulOk 11 x := fun x => mul_l (by decide) (by decide)
    simp [fn__law_stretches]
    refine ⟨⟨by omega, by omega⟩, ?_⟩
    rw [show upto 0 m.toNat = upto (0 + ((0 : Nat) : Int)) m.toNat from rfl]
    refine frW_upto (lo := 0) (m := m.toNat) (I := fun k ρ => ∃ (ps : List Pr2) (f e : Int) (s6 s7 s8 s9 s10 : Sl), ρ = [.va (.list (xs.map .int)), .va (.int m), .va (.int g), .ol (ps.map prD), .va (.int f), .va (.int e), s6, s7, s8, s9, s10] ∧ ps.length = k ∧ (∀ p ∈ ps, Good p ∧ p.2 ≤ 1000) ∧ 0 ≤ f ∧ f ≤ 2 * k ∧ 0 ≤ e ∧ e ≤ 5 * k) ?_ ?_ m.toNat 0 _ (by omega) ⟨[], 0, 0, .no, .no, .no, .no, .no, rfl, rfl, by simp, by omega, by omega, by omega, by omega⟩
    · rintro ρ ⟨ps, f, e, s6, s7, s8, s9, s10, rfl, hl, hp, _, _, _, _⟩
      simp
      exact h ps (by omega) hp
    · rintro k ρ R hk ⟨ps, f, e, s6, s7, s8, s9, s10, rfl, hl, hp, f0, f1, e0, e1⟩ hR
      obtain ⟨a, ha, a0, a1⟩ := hix (4 + 2 * (k : Int)) (by omega) (by omega)
      obtain ⟨b, hb, b0, b1⟩ := hix (5 + 2 * (k : Int)) (by omega) (by omega)
      have a3 := fmod_in (a := a) (b := 3) (by decide)
      have b3 := fmod_in (a := b) (b := 3) (by decide)
      have lz : ps.length < sizeLine := by have := le_size (n := 1000) (by decide); omega
      by_cases c3 : x0 < 3
      · simp [ha, hb, ml2, h0, c3, mlg, lz]
        generalize eF : f + a.fmod 3 = F
        generalize eG : (if e < F + 1 then F + 1 else e) + b.fmod 3 = G
        have hG : F < G ∧ G ≤ 5 * k + 5 := by
          rw [← eG]
          split <;> omega
        have gm := good_mul (F := F) (G := G) (g := g) (by omega) hG.1 (by have := m2 (by omega); omega) g0 g1
        refine hR _ ⟨ps ++ [(F * g, G * g)], F, G, .no, .no, .no, .no, .no, by rw [List.map_append]; rfl, by simp [hl], fun p hp' => ?_, by omega, by omega, by omega, by omega⟩
        rcases List.mem_append.mp hp' with z | z
        · exact hp p z
        · rw [List.mem_singleton] at z; subst z; exact gm
      · by_cases c7 : x0 = 7
        · have a8 := fmod_in (a := a) (b := 80) (by decide)
          have b8 := fmod_in (a := b) (b := 30) (by decide)
          simp [ha, hb, ml2, h0, c3, c7, mlg, lz]
          refine hR _ ⟨ps ++ [(a.fmod 80, a.fmod 80 + 1 + b.fmod 30)], f, e, .no, .no, .no, .no, .no, by rw [List.map_append]; rfl, by simp [hl], fun p hp' => ?_, by omega, by omega, by omega, by omega⟩
          rcases List.mem_append.mp hp' with z | z
          · exact hp p z
          · rw [List.mem_singleton] at z; subst z
            refine ⟨⟨?_, ?_, ?_⟩, ?_⟩ <;> (simp only; omega)
        · have fin : ∀ (s6 s7 s8 s9 s10 : Sl) (F S : Int), 0 ≤ F → F ≤ 20 → 1 ≤ S → S ≤ 12 → R [.va (.list (xs.map .int)), .va (.int m), .va (.int g), .ol (ps.map prD ++ [.tuple [.int (F * g), .int ((F + S) * g)]]), .va (.int f), .va (.int e), s6, s7, s8, s9, s10] := fun s6 s7 s8 s9 s10 F S z0 z1 z2 z3 => by
            have gm := good_mul (F := F) (G := F + S) (g := g) z0 (by omega) (by omega) g0 g1
            refine hR _ ⟨ps ++ [(F * g, (F + S) * g)], f, e, s6, s7, s8, s9, s10, by rw [List.map_append]; rfl, by simp [hl], fun p hp' => ?_, by omega, by omega, by omega, by omega⟩
            rcases List.mem_append.mp hp' with z | z
            · exact hp p z
            · rw [List.mem_singleton] at z; subst z; exact gm
          have a9 := fmod_in (a := a) (b := 9) (by decide)
          have b4 := fmod_in (a := b) (b := 4) (by decide)
          have b2 := fmod_in (a := b) (b := 2) (by decide)
          have b11 := fmod_in (a := b) (b := 11) (by decide)
          have t0 : L2.atI [PyData.int 4, .int 4, .int 2, .int 11] 0 = some (.int 4) := rfl
          have t1 : L2.atI [PyData.int 4, .int 4, .int 2, .int 11] 1 = some (.int 4) := rfl
          have t2 : L2.atI [PyData.int 4, .int 4, .int 2, .int 11] 2 = some (.int 2) := rfl
          have t3 : L2.atI [PyData.int 4, .int 4, .int 2, .int 11] 3 = some (.int 11) := rfl
          have hx : x0 = 3 ∨ x0 = 4 ∨ x0 = 5 ∨ x0 = 6 := by omega
          rcases hx with rfl | rfl | rfl | rfl
          · simp [ha, hb, ml2, ml11, h0, t0, mlg, lz]
            exact fin _ _ _ _ _ (a.fmod 9) (1 + b.fmod 4) (by omega) (by omega) (by omega) (by omega)
          · simp [ha, hb, ml2, ml11, h0, t1, mlg, lz]
            exact fin _ _ _ _ _ (a.fmod 9 + 11 * if (k : Int).fmod 2 = 1 then 1 else 0) (1 + b.fmod 4) (by split <;> omega) (by split <;> omega) (by omega) (by omega)
          · simp [ha, hb, ml2, ml11, h0, t2, mlg, lz]
            exact fin _ _ _ _ _ (a.fmod 9) (1 + b.fmod 2) (by omega) (by omega) (by omega) (by omega)
          · simp [ha, hb, ml2, ml11, h0, t3, mlg, lz]
            exact fin _ _ _ _ _ (a.fmod 9) (1 + b.fmod 11) (by omega) (by omega) (by omega) (by omega)
  have ml4 : ∀ x : Int, MulOk 4 x := fun x => mul_l (by decide) (by decide)
  have mlx : ∀ x : Int, Uq.MulOk ((4 : Int) * x2) x := fun x => mul_l (by omega) (by omega)
  by_cases e7 : x0 = 7
  · simp [fn__law_stretches, h0, h1, h2, h3, e7, ml4, mlx]
    exact key (20 + x3) 1 (by omega) (by omega) (by omega) (by omega) (by omega)
  · have l7 : x0 < 7 := by omega
    simp [fn__law_stretches, h0, h1, h2, h3, e7, ml4, mlx, l7]
    exact key x1 (1 + 4 * x2) (by omega) (by omega) (by omega) (by omega) (by omega)
end K01.P

set_option maxHeartbeats 4000000
namespace K01.P
open PySem Uq
def restL : List S := (((((((fn_law.body.drop 1).drop 1).drop 3).drop 1).drop 2).drop 1).drop 2).drop 1
theorem kin_row {ps : List Pr2} (r : Row ps) : Kin (.tuple (ps.map prD)) := by
  refine ⟨sh_prs, fun ds e => ?_, fun a b e => ?_⟩
  · cases e; rw [List.length_map]; have := r.len; omega
  · cases ps with
    | nil => cases e
    | cons p ps => rw [List.map_cons] at e; cases e
theorem tail_end {n : Nat} {ns ys : List Int} {ps : List Pr2} {y0 y1 y2 y3 : Int} {s1 s3 s5 s6 s7 s8 s9 s10 s11 : Sl} {Q : QD} {E : Ex} (hl : ns.length ≤ 63) (r : Row ps) (p0 : L2.atI (ys.map PyData.int) 0 = some (.int y0)) (p1 : L2.atI (ys.map PyData.int) 1 = some (.int y1)) (p2 : L2.atI (ys.map PyData.int) 2 = some (.int y2)) (p3 : L2.atI (ys.map PyData.int) 3 = some (.int y3))
    (b2 : 0 ≤ y2 ∧ y2 < 1000000000000000) (b3 : 0 ≤ y3 ∧ y3 < 1000000000000000) (h : Q (.bool true)) : wSs ⟨wC T sub flds (n + 11), sub, flds⟩ (restL.drop 3) [.va (lk ns), s1, .va (.list (ys.map .int)), s3, .va (.tuple (ps.map prD)), s5, s6, s7, s8, s9, s10, s11, .no, .no, .no, .no] (Kq Q E) := by
  refine wSs_cut 4 ?_
  generalize hr : (restL.drop 3).drop 4 = rest
  simp [restL, fn_law, p2, p3]
  refine law_things (n := n + 10) b2 b3 fun ds dl hds => ?_
  simp [asgn_ff, nms, nmsL]
  refine ⟨by omega, ?_⟩
  rw [show upto 0 ds.length = upto (0 + ((0 : Nat) : Int)) ds.length from rfl]
  refine frW_upto (lo := 0) (m := ds.length) (I := fun k ρ => ∃ t13, ρ = [.va (lk ns), .no, .va (.list (ys.map .int)), .no, .va (.tuple (ps.map prD)), .no, .no, .no, .no, .no, .no, .no, .va (.list ds), t13, .no, .no]) ?_ ?_ ds.length 0 _ (by omega) ⟨.no, rfl⟩
  · rintro ρ ⟨t13, rfl⟩
    subst hr
    show wSs _ _ _ _
    simp [restL, fn_law]
    refine ⟨le_size (by decide), le_size (by decide), ?_⟩
    refine law_nums_rep (n := n + 10) (pre := [100000, 100000, 100000, 100000, 100000, 100000, 6, 2, 2]) (k := 0) (c := 1) (by rfl) (by decide) hl (by decide) (by decide) (by decide) fun xs hx => ?_
    refine law_fraction (n := n + 10) hx fun a b hb ba bb => ?_
    simp
    refine ⟨le_size (by decide), le_size (by decide), ?_⟩
    refine law_nums_rep (n := n + 10) (pre := [100000, 100000, 100000, 100000, 100000, 100000, 6, 2, 2]) (k := 0) (c := 1) (by rfl) (by decide) hl (by decide) (by decide) (by decide) fun zs hz => ?_
    refine law_fraction (n := n + 10) hz fun c d hd bc bd => ?_
    simp
    refine law_sums (n := n + 6) hb hd ba bb bc bd ?_
    simp
    refine law_lowest (n := n + 9) (p := (a, b)) (ba.le (by decide)) (bb.le (by decide)) hb ?_
    simp [p0]
    refine law_odd_sums (n := n + 4) (shd_sh (shd_pr (k := 0)) (by decide)) (low_quo hb) noL_prD ?_
    simp
    exact law_rows (n := n + 2) r h
  · rintro k ρ R hk ⟨t13, rfl⟩ hR
    have hd : ds[k]? = some ds[k] := List.getElem?_eq_getElem hk
    have kd := hds ds[k] (List.getElem_mem hk)
    have hat : L2.atI ds (k : Int) = some ds[k] := atI_nat hd
    by_cases c : ((k : Int) + y1).fmod 2 = 0
    · simp [p1, hat, c]
      refine law_kinds (n := n + 5) kd.sh kd.len kd.small ?_
      simp
      exact hR _ ⟨_, rfl⟩
    · simp [p1, hat, c]
      exact hR _ ⟨_, rfl⟩
theorem tail_true {n : Nat} {ns ys : List Int} {ps : List Pr2} {y0 y1 y2 y3 : Int} {s1 s3 s5 s6 s7 s8 s9 : Sl} {Q : QD} {E : Ex} (hl : ns.length ≤ 63) (r : Row ps) (p0 : L2.atI (ys.map PyData.int) 0 = some (.int y0)) (p1 : L2.atI (ys.map PyData.int) 1 = some (.int y1)) (p2 : L2.atI (ys.map PyData.int) 2 = some (.int y2)) (p3 : L2.atI (ys.map PyData.int) 3 = some (.int y3))
    (b2 : 0 ≤ y2 ∧ y2 < 1000000000000000) (b3 : 0 ≤ y3 ∧ y3 < 1000000000000000) (h : Q (.bool true)) : wSs ⟨wC T sub flds (n + 11), sub, flds⟩ restL [.va (lk ns), s1, .va (.list (ys.map .int)), s3, .va (.tuple (ps.map prD)), s5, s6, s7, s8, s9, .no, .no, .no, .no, .no, .no] (Kq Q E) := by
  refine wSs_cut 3 ?_
  generalize hr : restL.drop 3 = rest
  simp [restL, fn_law]
  refine law_rows (n := n + 2) r ?_
  simp
  refine law_kinds (n := n + 5) (kin_row r).sh (kin_row r).len (kin_row r).small ?_
  simp [p0]
  refine law_spoilt (n := n + 10) r.len fun ds dl hds => ?_
  simp [frzIt, nms, nmsL]
  refine frW_ind (I := fun es ρ => (∀ d ∈ es, Spo d) ∧ ∃ t1 t3 t5 t6 t7 t8 t9 t10 t11, ρ = [.va (lk ns), t1, .va (.list (ys.map .int)), t3, .va (.tuple (ps.map prD)), t5, t6, t7, t8, t9, t10, t11, .no, .no, .no, .no]) ?_ ?_ _ _ ⟨hds, _, _, _, _, _, _, _, _, _, rfl⟩
  · rintro ρ ⟨_, t1, t3, t5, t6, t7, t8, t9, t10, t11, rfl⟩
    simp
    subst hr
    exact tail_end hl r p0 p1 p2 p3 b2 b3 h
  · rintro d es ρ R ⟨hd, t1, t3, t5, t6, t7, t8, t9, t10, t11, rfl⟩ hR
    obtain ⟨d1, d2⟩ := hd d List.mem_cons_self
    have fin : ∀ t1 t3 t5 t6 t7 t8 t9 t10 t11, R [.va (lk ns), t1, .va (.list (ys.map .int)), t3, .va (.tuple (ps.map prD)), t5, t6, t7, t8, t9, t10, t11, .no, .no, .no, .no] := fun t1 t3 t5 t6 t7 t8 t9 t10 t11 => hR _ ⟨fun x hx => hd x (List.mem_cons_of_mem _ hx), t1, t3, t5, t6, t7, t8, t9, t10, t11, rfl⟩
    simp
    refine law_checked (n := n + 7) d1 d2 ?_
    simp [noL_chkA]
    refine call_lets (n := n + 6) d1 ?_
    refine same (n := n + 6) 4 short_chkA ?_
    simp
    refine is_asks (n := n + 7) (sh_ok2 d1) ?_
    refine ok_of_chk ?_
    refine same (n := n + 7) 3 (short_b _) ?_
    simp
    refine is_queue (n := n + 6) (sh_ok2 d1) ?_
    refine law_queue (n := n + 6) d1 d2 ?_
    refine same (n := n + 7) 3 (short_b _) ?_
    simp [frzIt, nms, nmsL]
    refine frW_ind (I := fun es ρ => (∀ x ∈ es, ∃ f : Str, x = .str f ∧ (f = "order_fault" ∨ f = "wide_asks" ∨ f = "covered" ∨ f = "clubs_of" ∨ f = "longest_end")) ∧ ∃ t11, ρ = [.va (lk ns), .no, .va (.list (ys.map .int)), .no, .va (.tuple (ps.map prD)), .no, .no, .no, .va (chkA (letsA d)), .no, .va d, t11, .no, .no, .no, .no]) ?_ ?_ _ _ ⟨?_, _, rfl⟩
    · rintro ρ ⟨_, t11, rfl⟩
      simp
      exact fin _ _ _ _ _ _ _ _ _
    · rintro x es' ρ R' ⟨hx, t11, rfl⟩ hR'
      obtain ⟨f, rfl, hf⟩ := hx x List.mem_cons_self
      have fin' : ∀ t11, R' [.va (lk ns), .no, .va (.list (ys.map .int)), .no, .va (.tuple (ps.map prD)), .no, .no, .no, .va (chkA (letsA d)), .no, .va d, t11, .no, .no, .no, .no] := fun t11 => hR' _ ⟨fun y hy => hx y (List.mem_cons_of_mem _ hy), t11, rfl⟩
      have eg := letsA_good d
      cases e : letsA d with
      | ok m =>
        rw [e] at fin'
        simp [chkA]
        exact fin' _
      | bad w a =>
        rw [e] at fin' eg
        have ea : asks? d = none := by
          have : isAsks d = false := eg.symm
          rw [isAsks_eq] at this
          cases e2 : asks? d with
          | none => rfl
          | some q => rw [e2] at this; cases this
        simp [chkA, ne_po]
        refine ref_asks (n := n + 2) hf d1 ea ?_
        simp
        exact fin' _
    · intro x hx
      simp only [List.mem_cons, List.not_mem_nil, or_false] at hx
      rcases hx with rfl | rfl | rfl | rfl | rfl
      · exact ⟨_, rfl, .inl rfl⟩
      · exact ⟨_, rfl, .inr (.inl rfl)⟩
      · exact ⟨_, rfl, .inr (.inr (.inl rfl))⟩
      · exact ⟨_, rfl, .inr (.inr (.inr (.inl rfl)))⟩
      · exact ⟨_, rfl, .inr (.inr (.inr (.inr rfl)))⟩
end K01.P

set_option maxHeartbeats 8000000
namespace K01.P
open PySem Uq
/-- stretches as the law draws them -/
def Ok (ps : List Pr2) : Prop := ps.length ≤ 60 ∧ ∀ p ∈ ps, Good p ∧ p.2 ≤ 1000
theorem line_len_aux : ∀ {p : Pr2} {l : List Pr2}, (ins p l).length ≤ l.length + 1
  | p, [] => by simp [ins]
  | p, q :: r => by
    unfold ins
    have := line_len_aux (p := p) (l := r)
    split
    · simp
    · split <;> simp only [List.length_cons] <;> omega
theorem line_len : ∀ (l : List Pr2), (line l).length ≤ l.length
  | [] => by simp [line]
  | p :: r => by
    have := line_len r
    have := line_len_aux (p := p) (l := line r)
    simp only [line, List.length_cons]
    omega
def badL : List D := [.tuple [.int 1, .int 1], .tuple [.int 2, .int 1], .list [.int 0, .int 2], .tuple [.bool true, .int 2], .none]
theorem badL_ok : ∀ d ∈ badL, sh d ∧ str? d = none := by
  intro d hd
  simp only [badL, List.mem_cons, List.not_mem_nil, or_false] at hd
  have p2 : ∀ a b : D, shd 1 a → shd 1 b → sh (.tuple [a, b]) := fun a b h1 h2 => shd_sh (shd_pair h1 h2) (by decide)
  rcases hd with rfl | rfl | rfl | rfl | rfl
  · exact ⟨p2 _ _ shd_int shd_int, by decide⟩
  · exact ⟨p2 _ _ shd_int shd_int, by decide⟩
  · exact ⟨shd_sh (k := 1) (shd_lst fun x hx => by simp at hx; rcases hx with rfl | rfl <;> exact shd_int) (by decide), rfl⟩
  · exact ⟨p2 _ _ shd_bool shd_int, rfl⟩
  · exact ⟨sn, rfl⟩
theorem firstBad_good : ∀ {ps : List Pr2} {k : Nat}, (∀ p ∈ ps, Good p) → firstBad k (ps.map prD) = none
  | [], _, _ => rfl
  | p :: ps, k, h => by
    rw [List.map_cons, firstBad, str_good (h p List.mem_cons_self)]
    exact firstBad_good fun q hq => h q (List.mem_cons_of_mem _ hq)
theorem firstBad_at {b : D} {es : List D} (hb : str? b = none) : ∀ {ps : List Pr2} {k : Nat}, (∀ p ∈ ps, Good p) → firstBad k (ps.map prD ++ b :: es) = some (k + ps.length)
  | [], k, _ => by show firstBad k (b :: es) = _; rw [firstBad, hb]; rfl
  | p :: ps, k, h => by
    rw [List.map_cons, List.cons_append, firstBad, str_good (h p List.mem_cons_self)]
    show firstBad (k + 1) _ = _
    rw [firstBad_at hb fun q hq => h q (List.mem_cons_of_mem _ hq), List.length_cons]
    congr 1
    omega
theorem md_told {ps : List Pr2} {Q : QD} (hg : ∀ p ∈ ps, Good p) (h : Q (okD (.tuple ((line ps).map prD)))) : MD (ps.map prD) Q := by
  unfold MD
  rw [firstBad_good hg]
  intro qs hq
  rw [rows_of_good hg] at hq
  cases hq
  exact h
theorem cut_mid {xs : List D} {i j : Int} (h : 0 ≤ i) (h2 : 0 ≤ j) : (cut xs (some i) (some j)).length ≤ j.toNat - i.toNat ∧ ∀ x ∈ cut xs (some i) (some j), x ∈ xs := by
  unfold cut
  have e1 : HT.sIx xs.length 0 (some i) = min i.toNat xs.length := by
    show (if i < 0 then _ else _) = _
    rw [if_neg (by omega)]
  have e2 : HT.sIx xs.length xs.length (some j) = min j.toNat xs.length := by
    show (if j < 0 then _ else _) = _
    rw [if_neg (by omega)]
  rw [e1, e2]
  refine ⟨?_, fun x hx => List.mem_of_mem_drop (List.mem_of_mem_take hx)⟩
  rw [List.length_take, List.length_drop]
  omega
theorem law_true {n : Nat} {ns : List Int} {Q : QD} {E : Ex} (hl : ns.length ≤ 63) (h : Q (.bool true)) : W (n + 12) f_law [lk ns] Q E := by
  refine wC_of (fn := fn_law) rfl rfl ?_
  refine wSs_cut 1 ?_
  generalize hr : fn_law.body.drop 1 = rest
  have key : ∀ xs, Dr xs ([8, 9, 2, 41] ++ List.replicate 120 1000) → wSs ⟨wC T sub flds (n + 11), sub, flds⟩ rest [.va (lk ns), .va (.list (xs.map .int)), .no, .no, .no, .no, .no, .no, .no, .no, .no, .no, .no, .no, .no, .no] (Kq Q E) := by
    intro xs hx
    subst hr
    refine wSs_cut 1 ?_
    generalize hr : (fn_law.body.drop 1).drop 1 = rest
    have key : ∀ ys, Dr ys [1000000, 1000000, 1000000000000000, 1000000000000000] → wSs ⟨wC T sub flds (n + 11), sub, flds⟩ rest [.va (lk ns), .va (.list (xs.map .int)), .va (.list (ys.map .int)), .no, .no, .no, .no, .no, .no, .no, .no, .no, .no, .no, .no, .no] (Kq Q E) := by
      intro ys hy
      subst hr
      obtain ⟨y0, p0, y00, y01⟩ := hy.ix (i := 0) (b := 1000000) rfl
      obtain ⟨y1, p1, y10, y11⟩ := hy.ix (i := 1) (b := 1000000) rfl
      obtain ⟨y2, p2, y20, y21⟩ := hy.ix (i := 2) (b := 1000000000000000) rfl
      obtain ⟨y3, p3, y30, y31⟩ := hy.ix (i := 3) (b := 1000000000000000) rfl
      have p0 : L2.atI (ys.map PyData.int) 0 = some (.int y0) := p0
      have p1 : L2.atI (ys.map PyData.int) 1 = some (.int y1) := p1
      have p2 : L2.atI (ys.map PyData.int) 2 = some (.int y2) := p2
      have p3 : L2.atI (ys.map PyData.int) 3 = some (.int y3) := p3
      refine wSs_cut 3 ?_
      generalize hr : ((fn_law.body.drop 1).drop 1).drop 3 = rest
      have key : ∀ ps s1, Ok ps → wSs ⟨wC T sub flds (n + 11), sub, flds⟩ rest [.va (lk ns), s1, .va (.list (ys.map .int)), .ol (ps.map prD), .no, .no, .no, .no, .no, .no, .no, .no, .no, .no, .no, .no] (Kq Q E) := by
        intro ps s1 hps
        subst hr
        have r : Row (line ps) := ⟨up_line ps, fun p hp => (hps.2 p (mem_line.mp hp)).1, by have := line_len ps; have := hps.1; omega, fun p hp => (hps.2 p (mem_line.mp hp)).2⟩
        refine wSs_cut 1 ?_
        generalize hr : (((fn_law.body.drop 1).drop 1).drop 3).drop 1 = rest
        have key : wSs ⟨wC T sub flds (n + 11), sub, flds⟩ rest [.va (lk ns), s1, .va (.list (ys.map .int)), .ol (ps.map prD), .va (.tuple ((line ps).map prD)), .no, .no, .no, .no, .no, .no, .no, .no, .no, .no, .no] (Kq Q E) := by
          subst hr
          refine wSs_cut 2 ?_
          generalize hr : ((((fn_law.body.drop 1).drop 1).drop 3).drop 1).drop 2 = rest
          have key : ∀ b, b ∈ badL → wSs ⟨wC T sub flds (n + 11), sub, flds⟩ rest [.va (lk ns), s1, .va (.list (ys.map .int)), .ol (ps.map prD), .va (.tuple ((line ps).map prD)), .va (.int (y0.fmod 8)), .ol [b], .no, .no, .no, .no, .no, .no, .no, .no, .no] (Kq Q E) := by
            intro b hb
            subst hr
            have f8 := fmod_in (a := y0) (b := 8) (by decide)
            have c1 : cut (ps.map prD) none (some (y0.fmod 8)) = (ps.take (y0.fmod 8).toNat).map prD := by rw [cut_to f8.1, List.map_take]
            refine wSs_cut 1 ?_
            generalize hr : (((((fn_law.body.drop 1).drop 1).drop 3).drop 1).drop 2).drop 1 = rest
            have key : ∀ s3 s6, (s3 = .ol (ps.map prD) ∨ s3 = .va (.list (ps.map prD))) → wSs ⟨wC T sub flds (n + 11), sub, flds⟩ rest [.va (lk ns), s1, .va (.list (ys.map .int)), s3, .va (.tuple ((line ps).map prD)), .va (.int (y0.fmod 8)), s6, .ol ((ps.take (y0.fmod 8).toNat).map prD ++ b :: cut (ps.map prD) (some (y0.fmod 8)) (some 7)), .no, .no, .no, .no, .no, .no, .no, .no] (Kq Q E) := by
              intro s3 s6 hs3
              subst hr
              generalize hO : (ps.take (y0.fmod 8).toNat).map prD ++ b :: cut (ps.map prD) (some (y0.fmod 8)) (some 7) = O
              refine wSs_cut 2 ?_
              generalize hr : ((((((fn_law.body.drop 1).drop 1).drop 3).drop 1).drop 2).drop 1).drop 2 = rest
              have key : ∀ s3 s6 k, (k = 8 ∨ k = 12 ∧ 12 ≤ ps.length) → wSs ⟨wC T sub flds (n + 11), sub, flds⟩ rest [.va (lk ns), s1, .va (.list (ys.map .int)), s3, .va (.tuple ((line ps).map prD)), .va (.int (y0.fmod 8)), s6, .ol O, .va (noA (if (ps.length : Int) < y0.fmod 8 then ps.length else y0.fmod 8)), .ol ((ps.take k).map prD), .no, .no, .no, .no, .no, .no] (Kq Q E) := by
                intro s3 s6 k hk
                subst hr
                refine wSs_cut 1 ?_
                generalize hr : (((((((fn_law.body.drop 1).drop 1).drop 3).drop 1).drop 2).drop 1).drop 2).drop 1 = rest
                have key : ∀ s3 s6 s7 s8 s9, wSs ⟨wC T sub flds (n + 11), sub, flds⟩ rest [.va (lk ns), s1, .va (.list (ys.map .int)), s3, .va (.tuple ((line ps).map prD)), .va (.int (y0.fmod 8)), s6, s7, s8, s9, .no, .no, .no, .no, .no, .no] (Kq Q E) := by
                  intro s3 s6 s7 s8 s9
                  subst hr
                  exact tail_true (n := n) hl r p0 p1 p2 p3 ⟨y20, y21⟩ ⟨y30, y31⟩ h
                have hgk : ∀ p ∈ ps.take k, Good p := fun p hp => (hps.2 p (List.mem_of_mem_take hp)).1
                have h1 := hps.1
                have lk1 : (line (ps.take k)).length ≤ 60 := by
                  have := line_len (ps.take k)
                  simp at this
                  omega
                simp [fn_law, -List.map_take]
                refine law_made (n := n + 6) (fun x hx => ?_) (by rw [List.length_map, List.length_take]; omega) (md_told hgk ?_)
                · obtain ⟨p, _, rfl⟩ := List.mem_map.mp hx
                  exact shd_sh (shd_pr (k := 0)) (by decide)
                · refine law_line (n := n + 10) (by rw [List.length_take]; omega) ?_
                  refine same (n := n + 6) 4 (short_tup (k := 3) (by show 2 ≤ 1000; decide) fun x hx => by
                    simp only [List.mem_cons, List.not_mem_nil, or_false] at hx
                    rcases hx with rfl | rfl
                    · exact short_str
                    · exact short_prs (k := 1) (by omega)) ?_
                  simp
                  obtain ⟨bs, bn⟩ := badL_ok b hb
                  obtain ⟨m1, m2⟩ := cut_mid (xs := ps.map prD) (i := y0.fmod 8) (j := 7) f8.1 (by decide)
                  refine law_made (n := n + 6) (fun x hx => ?_) (.inl ?_) ?_
                  · rw [← hO] at hx
                    have hpr : ∀ q : Pr2, sh (prD q) := fun q => shd_sh (shd_pr (k := 0)) (by decide)
                    rcases List.mem_append.mp hx with z | z
                    · obtain ⟨q, _, rfl⟩ := List.mem_map.mp z
                      exact hpr q
                    · rcases List.mem_cons.mp z with rfl | z
                      · exact bs
                      · obtain ⟨q, _, rfl⟩ := List.mem_map.mp (m2 x z)
                        exact hpr q
                  · rw [← hO, List.length_append, List.length_cons, List.length_map, List.length_take]
                    have : (7 : Int).toNat = 7 := rfl
                    omega
                  · unfold MD
                    rw [← hO, firstBad_at bn fun q hq => (hps.2 q (List.mem_of_mem_take hq)).1]
                    have e9 : ((0 + (ps.take (y0.fmod 8).toNat).length : Nat) : Int) = if (ps.length : Int) < y0.fmod 8 then (ps.length : Int) else y0.fmod 8 := by
                      rw [List.length_take]
                      split <;> omega
                    show wC T sub flds (n + 11) f__law_same [noA ((0 + (ps.take (y0.fmod 8).toNat).length : Nat) : Int), _] _ _
                    rw [e9]
                    refine same (n := n + 6) 4 (short_tup (k := 3) (by show 4 ≤ 1000; decide) fun x hx => by
                      simp only [List.mem_cons, List.not_mem_nil, or_false] at hx
                      rcases hx with rfl | rfl | rfl | rfl
                      · exact short_str
                      · exact short_str
                      · exact short_int
                      · exact short_bool) ?_
                    simp
                    exact key _ _ _ _ _
              have mo : ∀ x : Int, MulOk 4 x := fun x => mul_l (by decide) (by decide)
              by_cases c : (12 : Int) ≤ ps.length
              · have c2 : cut (ps.map prD) none (some 12) = (ps.take 12).map prD := by rw [cut_to (by decide), List.map_take]; rfl
                rcases hs3 with rfl | rfl
                · simp [fn_law, c, c2, mo, noLs_prs, -List.map_take]
                  exact key _ _ 12 (.inr ⟨rfl, by omega⟩)
                · simp [fn_law, c, c2, mo, noLs_prs, -List.map_take]
                  exact key _ _ 12 (.inr ⟨rfl, by omega⟩)
              · have c2 : cut (ps.map prD) none (some 8) = (ps.take 8).map prD := by rw [cut_to (by decide), List.map_take]; rfl
                rcases hs3 with rfl | rfl
                · simp [fn_law, c, c2, mo, noLs_prs, -List.map_take]
                  exact key _ _ 8 (.inl rfl)
                · simp [fn_law, c, c2, mo, noLs_prs, -List.map_take]
                  exact key _ _ 8 (.inl rfl)
            have lc : (cut (ps.map prD) (some (y0.fmod 8)) (some 7)).length ≤ 60 := by
              have h1 := hps.1
              unfold cut
              simp only [List.length_take, List.length_drop, List.length_map]
              omega
            have h1 := hps.1
            simp [fn_law, c1, -List.map_take]
            refine ⟨le_size (by omega), le_size (by omega), ?_⟩
            cases hn : noLs ((ps.take (y0.fmod 8).toNat).map prD ++ b :: cut (ps.map prD) (some (y0.fmod 8)) (some 7)) with
            | true => rw [asgn_l rfl hn]; exact key _ _ (.inl rfl)
            | false => rw [asgn_lF rfl hn]; simp [nms, nmsL, -List.map_take]; exact key _ _ (.inr rfl)
          have f5 := fmod_in (a := y0.fdiv 8) (b := 5) (by decide)
          obtain ⟨b, hb, hbm⟩ := atI_mem (ds := badL) f5.1 f5.2
          unfold badL at hb
          simp [fn_law, p0, hb]
          have := key b hbm
          cases hn : noL b with
          | true => rw [asgn_l rfl (by simp [hn])]; exact this
          | false => rw [asgn_lF rfl (by simp [hn])]; simp [nms, nmsL]; exact this
        simp [fn_law]
        refine law_line (n := n + 10) (by have := hps.1; omega) ?_
        simp [noLs_prs]
        exact key
      simp [fn_law]
      refine law_stretches (n := n + 10) hx fun ps hpl hpg => ?_
      have hok : Ok ps := ⟨hpl, hpg⟩
      have f2 := fmod_in (a := y1) (b := 2) (by decide)
      have f3 := fmod_in (a := y1) (b := 3) (by decide)
      have c1 : cut (ps.map prD) (some (y1.fmod 3)) none = (ps.drop (y1.fmod 3).toNat).map prD := by rw [cut_from f3.1, List.map_drop]
      have c2 : cut (ps.map prD) none (some (y1.fmod 3)) = (ps.take (y1.fmod 3).toNat).map prD := by rw [cut_to f3.1, List.map_take]
      have c3 : cut (ps.reverse.map prD) (some (y1.fmod 3)) none = (ps.reverse.drop (y1.fmod 3).toNat).map prD := by rw [cut_from f3.1, List.map_drop]
      have c4 : cut (ps.reverse.map prD) none (some (y1.fmod 3)) = (ps.reverse.take (y1.fmod 3).toNat).map prD := by rw [cut_to f3.1, List.map_take]
      by_cases c : y1.fmod 2 = 1
      · simp [p1, noLs_prs, asgn_ff, nms, nmsL, c, c3, c4, -List.map_reverse, ← List.map_reverse, -List.map_drop, -List.map_take]
        refine ⟨le_size (by omega), ?_⟩
        rw [← List.map_append, asgn_l rfl (noLs_prs _)]
        refine key _ _ ⟨by simp; omega, fun p hp => hpg p ?_⟩
        rcases List.mem_append.mp hp with z | z
        · exact List.mem_reverse.mp (List.mem_of_mem_drop z)
        · exact List.mem_reverse.mp (List.mem_of_mem_take z)
      · simp [p1, noLs_prs, asgn_ff, nms, nmsL, c, c1, c2, -List.map_drop, -List.map_take]
        refine ⟨le_size (by omega), ?_⟩
        rw [← List.map_append, asgn_l rfl (noLs_prs _)]
        refine key _ _ ⟨by simp; omega, fun p hp => hpg p ?_⟩
        rcases List.mem_append.mp hp with z | z
        · exact List.mem_of_mem_drop z
        · exact List.mem_of_mem_take z
    simp [fn_law]
    refine law_nums_rep (n := n + 10) (pre := [1000000, 1000000, 1000000000000000, 1000000000000000]) (k := 0) (c := 1) (by rfl) (by decide) hl (by decide) (by decide) (by decide) fun ys hy => ?_
    simp [asgn_ff, nms, nmsL]
    exact key ys hy
  simp [fn_law]
  refine ⟨le_size (by decide), le_size (by decide), ?_⟩
  refine law_nums_rep (n := n + 10) (pre := [8, 9, 2, 41]) (k := 120) (c := 1000) (by rfl) (by decide) hl (by decide) (by decide) (by decide) fun ys hy => ?_
  simp [asgn_ff, nms, nmsL]
  exact key ys hy
end K01.P

set_option maxHeartbeats 0
namespace K01
open PySem PySem.Spec PyProof.Rows L2 Uq
def fnN0 : List Str := [Str.ofString "is_integer", Str.ofString "is_number", Str.ofString "_divisor", Str.ofString "is_quotient", Str.ofString "is_stretch", Str.ofString "is_lot", Str.ofString "is_asks", Str.ofString "is_queue", Str.ofString "asks_of", Str.ofString "order_fault", Str.ofString "wide_asks", Str.ofString "covered", Str.ofString "clubs_of", Str.ofString "longest_end", Str.ofString "_asks_usable", Str.ofString "lets_asks", Str.ofString "quotient_of", Str.ofString "plus", Str.ofString "minus", Str.ofString "times", Str.ofString "less", Str.ofString "_both_quotients", Str.ofString "_lowest", Str.ofString "_law_nums", Str.ofString "_law_int", Str.ofString "_law_number", Str.ofString "_law_same", Str.ofString "_law_divisor", Str.ofString "_law_quotient", Str.ofString "_law_stretch"]
def fnN1 : List Str := [Str.ofString "_law_lot", Str.ofString "_law_checked", Str.ofString "_law_fault", Str.ofString "_law_queue", Str.ofString "_law_line", Str.ofString "_law_share", Str.ofString "_law_clubs", Str.ofString "_law_call", Str.ofString "_law_made", Str.ofString "_law_stretches", Str.ofString "_law_things", Str.ofString "_law_kinds", Str.ofString "_law_fraction", Str.ofString "_law_lowest", Str.ofString "_law_stands", Str.ofString "_law_sums", Str.ofString "_law_refused", Str.ofString "_law_odd_sums", Str.ofString "_law_rows", Str.ofString "_law_spoilt", Str.ofString "law"]
def fnN : List Str := fnN0 ++ fnN1
def prms (f : Nat) : List Str := match f with
  | 0 => [Str.ofString "thing"]
  | 1 => [Str.ofString "thing"]
  | 2 => [Str.ofString "one", Str.ofString "other"]
  | 3 => [Str.ofString "thing"]
  | 4 => [Str.ofString "thing"]
  | 5 => [Str.ofString "thing"]
  | 6 => [Str.ofString "thing"]
  | 7 => [Str.ofString "thing"]
  | 8 => [Str.ofString "stretches"]
  | 9 => [Str.ofString "asks"]
  | 10 => [Str.ofString "asks"]
  | 11 => [Str.ofString "asks"]
  | 12 => [Str.ofString "asks"]
  | 13 => [Str.ofString "asks"]
  | 14 => [Str.ofString "asks"]
  | 15 => [Str.ofString "thing"]
  | 16 => [Str.ofString "top", Str.ofString "bottom"]
  | 17 => [Str.ofString "one", Str.ofString "other"]
  | 18 => [Str.ofString "one", Str.ofString "other"]
  | 19 => [Str.ofString "one", Str.ofString "other"]
  | 20 => [Str.ofString "one", Str.ofString "other"]
  | 21 => [Str.ofString "one", Str.ofString "other"]
  | 22 => [Str.ofString "top", Str.ofString "bottom"]
  | 23 => [Str.ofString "_law_script", Str.ofString "_law_at", Str.ofString "_law_bounds"]
  | 24 => [Str.ofString "_law_thing"]
  | 25 => [Str.ofString "_law_thing"]
  | 26 => [Str.ofString "_law_got", Str.ofString "_law_due"]
  | 27 => [Str.ofString "_law_one", Str.ofString "_law_other"]
  | 28 => [Str.ofString "_law_thing"]
  | 29 => [Str.ofString "_law_thing"]
  | 30 => [Str.ofString "_law_thing"]
  | 31 => [Str.ofString "_law_thing"]
  | 32 => [Str.ofString "_law_asks"]
  | 33 => [Str.ofString "_law_thing"]
  | 34 => [Str.ofString "_law_parts"]
  | 35 => [Str.ofString "_law_club", Str.ofString "_law_ask"]
  | 36 => [Str.ofString "_law_wide"]
  | 37 => [Str.ofString "_law_which", Str.ofString "_law_a", Str.ofString "_law_b"]
  | 38 => [Str.ofString "_law_p"]
  | 39 => [Str.ofString "_law_nums_here"]
  | 40 => [Str.ofString "_law_one", Str.ofString "_law_two"]
  | 41 => [Str.ofString "_law_x", Str.ofString "_law_named"]
  | 42 => [Str.ofString "_law_nums_here"]
  | 43 => [Str.ofString "_law_pair"]
  | 44 => [Str.ofString "_law_got", Str.ofString "_law_top", Str.ofString "_law_bottom"]
  | 45 => [Str.ofString "_law_one", Str.ofString "_law_other"]
  | 46 => [Str.ofString "_law_which", Str.ofString "_law_a", Str.ofString "_law_b", Str.ofString "_law_word"]
  | 47 => [Str.ofString "_law_good", Str.ofString "_law_pick"]
  | 48 => [Str.ofString "_law_row"]
  | 49 => [Str.ofString "_law_row", Str.ofString "_law_pick"]
  | 50 => [Str.ofString "_law_script"]
  | _ => []
def shp (f : Nat) : List (Nat × List Str) := match f with
  | 0 => [(0, [Str.ofString "thing"])]
  | 1 => [(0, [Str.ofString "thing"])]
  | 3 => [(0, [Str.ofString "thing"])]
  | 4 => [(0, [Str.ofString "thing"])]
  | 5 => [(0, [Str.ofString "thing"])]
  | 6 => [(0, [Str.ofString "thing"])]
  | 7 => [(0, [Str.ofString "thing"])]
  | 9 => [(0, [Str.ofString "asks"])]
  | 10 => [(0, [Str.ofString "asks"])]
  | 11 => [(0, [Str.ofString "asks"])]
  | 12 => [(0, [Str.ofString "asks"])]
  | 13 => [(0, [Str.ofString "asks"])]
  | 15 => [(0, [Str.ofString "thing"])]
  | 16 => [(0, [Str.ofString "bottom", Str.ofString "top"])]
  | 17 => [(0, [Str.ofString "other", Str.ofString "one"])]
  | 18 => [(0, [Str.ofString "other", Str.ofString "one"])]
  | 19 => [(0, [Str.ofString "other", Str.ofString "one"])]
  | 20 => [(0, [Str.ofString "other", Str.ofString "one"])]
  | _ => []
def vaN : List Str := [Str.ofString "asks_of"]
def fnI (x : Str) : Option Nat := if vaN.contains x = true then none else ixOf fnN x
def fvI (x : Str) : Option Nat := if vaN.contains x = true then ixOf fnN x else none
def cf : Cf := ⟨[], fnI, prms, ixOf xcN, shp, rz, fvI⟩
def top (i : Nat) : Stmt := PySem.Challenge.pw_underthree_k01_kinds_quotients_and_clubs.main.body.getD i (.Pass ⟨0, 0, 0, 0⟩)
def N_is_integer : List Str := [Str.ofString "thing"]
theorem c_is_integer : chkD { cf with N := N_is_integer } f_is_integer fn_is_integer (defBody (top 7)) (defScope (top 7)) = true := by decide +kernel
def N_is_number : List Str := [Str.ofString "thing"]
theorem c_is_number : chkD { cf with N := N_is_number } f_is_number fn_is_number (defBody (top 8)) (defScope (top 8)) = true := by decide +kernel
def N__divisor : List Str := [Str.ofString "one", Str.ofString "other"]
theorem c__divisor : chkD { cf with N := N__divisor } f__divisor fn__divisor (defBody (top 9)) (defScope (top 9)) = true := by decide +kernel
def N_is_quotient : List Str := [Str.ofString "thing", Str.ofString "top", Str.ofString "bottom"]
theorem c_is_quotient : chkD { cf with N := N_is_quotient } f_is_quotient fn_is_quotient (defBody (top 10)) (defScope (top 10)) = true := by decide +kernel
def N_is_stretch : List Str := [Str.ofString "thing", Str.ofString "low", Str.ofString "high"]
theorem c_is_stretch : chkD { cf with N := N_is_stretch } f_is_stretch fn_is_stretch (defBody (top 11)) (defScope (top 11)) = true := by decide +kernel
def N_is_lot : List Str := [Str.ofString "thing", Str.ofString "least", Str.ofString "member"]
theorem c_is_lot : chkD { cf with N := N_is_lot } f_is_lot fn_is_lot (defBody (top 12)) (defScope (top 12)) = true := by decide +kernel
def N_is_asks : List Str := [Str.ofString "thing", Str.ofString "before", Str.ofString "ask"]
theorem c_is_asks : chkD { cf with N := N_is_asks } f_is_asks fn_is_asks (defBody (top 13)) (defScope (top 13)) = true := by decide +kernel
def N_is_queue : List Str := [Str.ofString "thing", Str.ofString "end", Str.ofString "ask"]
theorem c_is_queue : chkD { cf with N := N_is_queue } f_is_queue fn_is_queue (defBody (top 14)) (defScope (top 14)) = true := by decide +kernel
def N_asks_of : List Str := [Str.ofString "stretches", Str.ofString "at", Str.ofString "thing"]
theorem c_asks_of : chkD { cf with N := N_asks_of } f_asks_of fn_asks_of (defBody (top 16)) (defScope (top 16)) = true := by decide +kernel
def N_order_fault : List Str := [Str.ofString "asks", Str.ofString "at", Str.ofString "one", Str.ofString "other"]
theorem c_order_fault : chkD { cf with N := N_order_fault } f_order_fault fn_order_fault (defBody (top 17)) (defScope (top 17)) = true := by decide +kernel
def N_wide_asks : List Str := [Str.ofString "asks", Str.ofString "ask"]
theorem c_wide_asks : chkD { cf with N := N_wide_asks } f_wide_asks fn_wide_asks (defBody (top 18)) (defScope (top 18)) = true := by decide +kernel
def N_covered : List Str := [Str.ofString "asks", Str.ofString "inside", Str.ofString "low", Str.ofString "high", Str.ofString "start"]
theorem c_covered : chkD { cf with N := N_covered } f_covered fn_covered (defBody (top 19)) (defScope (top 19)) = true := by decide +kernel
def N_clubs_of : List Str := [Str.ofString "asks", Str.ofString "clubs", Str.ofString "end", Str.ofString "ask", Str.ofString "club"]
theorem c_clubs_of : chkD { cf with N := N_clubs_of } f_clubs_of fn_clubs_of (defBody (top 20)) (defScope (top 20)) = true := by decide +kernel
def N_longest_end : List Str := [Str.ofString "asks", Str.ofString "ask"]
theorem c_longest_end : chkD { cf with N := N_longest_end } f_longest_end fn_longest_end (defBody (top 21)) (defScope (top 21)) = true := by decide +kernel
def N__asks_usable : List Str := [Str.ofString "asks"]
theorem c__asks_usable : chkD { cf with N := N__asks_usable } f__asks_usable fn__asks_usable (defBody (top 22)) (defScope (top 22)) = true := by decide +kernel
def N_lets_asks : List Str := [Str.ofString "thing", Str.ofString "at", Str.ofString "ask"]
theorem c_lets_asks : chkD { cf with N := N_lets_asks } f_lets_asks fn_lets_asks (defBody (top 24)) (defScope (top 24)) = true := by decide +kernel
def N_quotient_of : List Str := [Str.ofString "top", Str.ofString "bottom"]
theorem c_quotient_of : chkD { cf with N := N_quotient_of } f_quotient_of fn_quotient_of (defBody (top 26)) (defScope (top 26)) = true := by decide +kernel
def N_plus : List Str := [Str.ofString "one", Str.ofString "other"]
theorem c_plus : chkD { cf with N := N_plus } f_plus fn_plus (defBody (top 27)) (defScope (top 27)) = true := by decide +kernel
def N_minus : List Str := [Str.ofString "one", Str.ofString "other"]
theorem c_minus : chkD { cf with N := N_minus } f_minus fn_minus (defBody (top 28)) (defScope (top 28)) = true := by decide +kernel
def N_times : List Str := [Str.ofString "one", Str.ofString "other"]
theorem c_times : chkD { cf with N := N_times } f_times fn_times (defBody (top 29)) (defScope (top 29)) = true := by decide +kernel
def N_less : List Str := [Str.ofString "one", Str.ofString "other"]
theorem c_less : chkD { cf with N := N_less } f_less fn_less (defBody (top 30)) (defScope (top 30)) = true := by decide +kernel
def N__both_quotients : List Str := [Str.ofString "one", Str.ofString "other"]
theorem c__both_quotients : chkD { cf with N := N__both_quotients } f__both_quotients fn__both_quotients (defBody (top 31)) (defScope (top 31)) = true := by decide +kernel
def N__lowest : List Str := [Str.ofString "top", Str.ofString "bottom", Str.ofString "shared"]
theorem c__lowest : chkD { cf with N := N__lowest } f__lowest fn__lowest (defBody (top 32)) (defScope (top 32)) = true := by decide +kernel
def N__law_nums : List Str := [Str.ofString "_law_script", Str.ofString "_law_at", Str.ofString "_law_bounds", Str.ofString "_law_cell", Str.ofString "_law_seed", Str.ofString "_law_part", Str.ofString "_law_free", Str.ofString "_law_mix", Str.ofString "_law_out", Str.ofString "_law_bound"]
theorem c__law_nums : chkD { cf with N := N__law_nums } f__law_nums fn__law_nums (defBody (top 34)) (defScope (top 34)) = true := by decide +kernel
def N__law_int : List Str := [Str.ofString "_law_thing"]
theorem c__law_int : chkD { cf with N := N__law_int } f__law_int fn__law_int (defBody (top 35)) (defScope (top 35)) = true := by decide +kernel
def N__law_number : List Str := [Str.ofString "_law_thing"]
theorem c__law_number : chkD { cf with N := N__law_number } f__law_number fn__law_number (defBody (top 36)) (defScope (top 36)) = true := by decide +kernel
def N__law_same : List Str := [Str.ofString "_law_got", Str.ofString "_law_due", Str.ofString "_law_k"]
theorem c__law_same : chkD { cf with N := N__law_same } f__law_same fn__law_same (defBody (top 37)) (defScope (top 37)) = true := by decide +kernel
def N__law_divisor : List Str := [Str.ofString "_law_one", Str.ofString "_law_other", Str.ofString "_law_pair", Str.ofString "_law_k"]
theorem c__law_divisor : chkD { cf with N := N__law_divisor } f__law_divisor fn__law_divisor (defBody (top 38)) (defScope (top 38)) = true := by decide +kernel
def N__law_quotient : List Str := [Str.ofString "_law_thing"]
theorem c__law_quotient : chkD { cf with N := N__law_quotient } f__law_quotient fn__law_quotient (defBody (top 39)) (defScope (top 39)) = true := by decide +kernel
def N__law_stretch : List Str := [Str.ofString "_law_thing"]
theorem c__law_stretch : chkD { cf with N := N__law_stretch } f__law_stretch fn__law_stretch (defBody (top 40)) (defScope (top 40)) = true := by decide +kernel
def N__law_lot : List Str := [Str.ofString "_law_thing", Str.ofString "_law_last", Str.ofString "_law_part"]
theorem c__law_lot : chkD { cf with N := N__law_lot } f__law_lot fn__law_lot (defBody (top 41)) (defScope (top 41)) = true := by decide +kernel
def N__law_checked : List Str := [Str.ofString "_law_thing", Str.ofString "_law_k"]
theorem c__law_checked : chkD { cf with N := N__law_checked } f__law_checked fn__law_checked (defBody (top 42)) (defScope (top 42)) = true := by decide +kernel
def N__law_fault : List Str := [Str.ofString "_law_asks", Str.ofString "_law_one", Str.ofString "_law_other", Str.ofString "_law_ahead"]
theorem c__law_fault : chkD { cf with N := N__law_fault } f__law_fault fn__law_fault (defBody (top 43)) (defScope (top 43)) = true := by decide +kernel
def N__law_queue : List Str := [Str.ofString "_law_thing"]
theorem c__law_queue : chkD { cf with N := N__law_queue } f__law_queue fn__law_queue (defBody (top 44)) (defScope (top 44)) = true := by decide +kernel
def N__law_line : List Str := [Str.ofString "_law_parts", Str.ofString "_law_out", Str.ofString "_law_part"]
theorem c__law_line : chkD { cf with N := N__law_line } f__law_line fn__law_line (defBody (top 45)) (defScope (top 45)) = true := by decide +kernel
def N__law_share : List Str := [Str.ofString "_law_club", Str.ofString "_law_ask", Str.ofString "_law_other"]
theorem c__law_share : chkD { cf with N := N__law_share } f__law_share fn__law_share (defBody (top 46)) (defScope (top 46)) = true := by decide +kernel
def N__law_clubs : List Str := [Str.ofString "_law_wide", Str.ofString "_law_clubs_here", Str.ofString "_law_ask", Str.ofString "_law_grown", Str.ofString "_law_away", Str.ofString "_law_club"]
theorem c__law_clubs : chkD { cf with N := N__law_clubs } f__law_clubs fn__law_clubs (defBody (top 47)) (defScope (top 47)) = true := by decide +kernel
def N__law_call : List Str := [Str.ofString "_law_which", Str.ofString "_law_a", Str.ofString "_law_b", Str.ofString "e"]
theorem c__law_call : chkD { cf with N := N__law_call } f__law_call fn__law_call (defBody (top 48)) (defScope (top 48)) = true := by decide +kernel
def N__law_made : List Str := [Str.ofString "_law_p", Str.ofString "e"]
theorem c__law_made : chkD { cf with N := N__law_made } f__law_made fn__law_made (defBody (top 49)) (defScope (top 49)) = true := by decide +kernel
def N__law_stretches : List Str := [Str.ofString "_law_nums_here", Str.ofString "_law_many", Str.ofString "_law_grow", Str.ofString "_law_out", Str.ofString "_law_front", Str.ofString "_law_end", Str.ofString "_law_k", Str.ofString "_law_one", Str.ofString "_law_two", Str.ofString "_law_low", Str.ofString "_law_size"]
theorem c__law_stretches : chkD { cf with N := N__law_stretches } f__law_stretches fn__law_stretches (defBody (top 50)) (defScope (top 50)) = true := by decide +kernel
def N__law_things : List Str := [Str.ofString "_law_one", Str.ofString "_law_two", Str.ofString "_law_things_here"]
theorem c__law_things : chkD { cf with N := N__law_things } f__law_things fn__law_things (defBody (top 51)) (defScope (top 51)) = true := by decide +kernel
def N__law_kinds : List Str := [Str.ofString "_law_x", Str.ofString "_law_named", Str.ofString "_law_due", Str.ofString "_law_told"]
theorem c__law_kinds : chkD { cf with N := N__law_kinds } f__law_kinds fn__law_kinds (defBody (top 52)) (defScope (top 52)) = true := by decide +kernel
def N__law_fraction : List Str := [Str.ofString "_law_nums_here", Str.ofString "_law_top", Str.ofString "_law_bottom", Str.ofString "_law_share_here"]
theorem c__law_fraction : chkD { cf with N := N__law_fraction } f__law_fraction fn__law_fraction (defBody (top 53)) (defScope (top 53)) = true := by decide +kernel
def N__law_lowest : List Str := [Str.ofString "_law_pair", Str.ofString "_law_by"]
theorem c__law_lowest : chkD { cf with N := N__law_lowest } f__law_lowest fn__law_lowest (defBody (top 54)) (defScope (top 54)) = true := by decide +kernel
def N__law_stands : List Str := [Str.ofString "_law_got", Str.ofString "_law_top", Str.ofString "_law_bottom"]
theorem c__law_stands : chkD { cf with N := N__law_stands } f__law_stands fn__law_stands (defBody (top 55)) (defScope (top 55)) = true := by decide +kernel
def N__law_sums : List Str := [Str.ofString "_law_one", Str.ofString "_law_other", Str.ofString "_law_p", Str.ofString "_law_q", Str.ofString "_law_down"]
theorem c__law_sums : chkD { cf with N := N__law_sums } f__law_sums fn__law_sums (defBody (top 56)) (defScope (top 56)) = true := by decide +kernel
def N__law_refused : List Str := [Str.ofString "_law_which", Str.ofString "_law_a", Str.ofString "_law_b", Str.ofString "_law_word"]
theorem c__law_refused : chkD { cf with N := N__law_refused } f__law_refused fn__law_refused (defBody (top 57)) (defScope (top 57)) = true := by decide +kernel
def N__law_odd_sums : List Str := [Str.ofString "_law_good", Str.ofString "_law_pick", Str.ofString "_law_odds", Str.ofString "_law_odd", Str.ofString "_law_which"]
theorem c__law_odd_sums : chkD { cf with N := N__law_odd_sums } f__law_odd_sums fn__law_odd_sums (defBody (top 58)) (defScope (top 58)) = true := by decide +kernel
def N__law_rows : List Str := [Str.ofString "_law_row", Str.ofString "_law_wide", Str.ofString "_law_ask", Str.ofString "_law_end", Str.ofString "_law_marks", Str.ofString "_law_place", Str.ofString "_law_dues", Str.ofString "_law_k", Str.ofString "_law_due", Str.ofString "_law_told"]
theorem c__law_rows : chkD { cf with N := N__law_rows } f__law_rows fn__law_rows (defBody (top 59)) (defScope (top 59)) = true := by decide +kernel
def N__law_spoilt : List Str := [Str.ofString "_law_row", Str.ofString "_law_pick", Str.ofString "_law_at", Str.ofString "_law_bads", Str.ofString "_law_bad", Str.ofString "_law_worse", Str.ofString "_law_things_here"]
theorem c__law_spoilt : chkD { cf with N := N__law_spoilt } f__law_spoilt fn__law_spoilt (defBody (top 60)) (defScope (top 60)) = true := by decide +kernel
def N_law : List Str := [Str.ofString "_law_script", Str.ofString "_law_nums_here", Str.ofString "_law_pick", Str.ofString "_law_parts", Str.ofString "_law_row", Str.ofString "_law_at", Str.ofString "_law_bad", Str.ofString "_law_odd", Str.ofString "_law_due", Str.ofString "_law_told", Str.ofString "_law_thing", Str.ofString "_law_which", Str.ofString "_law_things_here", Str.ofString "_law_k", Str.ofString "_law_one", Str.ofString "_law_other"]
theorem c_law : chkD { cf with N := N_law } f_law fn_law (defBody (top 61)) (defScope (top 61)) = true := by decide +kernel
theorem i_InvalidPaper : chkN (flds 3) [Str.ofString "self", Str.ofString "word", Str.ofString "at"] (defBody (inClass (top 4) 0)) (defScope (inClass (top 4) 0)) = true := by decide +kernel
theorem i_NotUsable : chkN (flds 4) [Str.ofString "self", Str.ofString "word", Str.ofString "at"] (defBody (inClass (top 5) 0)) (defScope (inClass (top 5) 0)) = true := by decide +kernel
def dd (x : Str) (i : Nat) : He.DefD := ⟨(x, none), x, x, defArgs (top i), defBody (top i), defScope (top i), [], []⟩
def di (x q : Str) (i j : Nat) : He.DefD := ⟨(x, some "__init__"), "__init__", q, defArgs (inClass (top i) j), defBody (inClass (top i) j), defScope (inClass (top i) j), [], []⟩
def fn0 : List He.DefD := [dd "is_integer" 7, dd "is_number" 8, dd "_divisor" 9, dd "is_quotient" 10, dd "is_stretch" 11, dd "is_lot" 12, dd "is_asks" 13, dd "is_queue" 14, dd "asks_of" 16, dd "order_fault" 17, dd "wide_asks" 18, dd "covered" 19, dd "clubs_of" 20, dd "longest_end" 21, dd "_asks_usable" 22, dd "lets_asks" 24, dd "quotient_of" 26, dd "plus" 27, dd "minus" 28, dd "times" 29]
def fn1 : List He.DefD := [dd "less" 30, dd "_both_quotients" 31, dd "_lowest" 32, dd "_law_nums" 34, dd "_law_int" 35, dd "_law_number" 36, dd "_law_same" 37, dd "_law_divisor" 38, dd "_law_quotient" 39, dd "_law_stretch" 40, dd "_law_lot" 41, dd "_law_checked" 42, dd "_law_fault" 43, dd "_law_queue" 44, dd "_law_line" 45, dd "_law_share" 46, dd "_law_clubs" 47, dd "_law_call" 48, dd "_law_made" 49, dd "_law_stretches" 50]
def fn2 : List He.DefD := [dd "_law_things" 51, dd "_law_kinds" 52, dd "_law_fraction" 53, dd "_law_lowest" 54, dd "_law_stands" 55, dd "_law_sums" 56, dd "_law_refused" 57, dd "_law_odd_sums" 58, dd "_law_rows" 59, dd "_law_spoilt" 60, dd "law" 61, di "InvalidPaper" "InvalidPaper.__init__" 4 0, di "NotUsable" "NotUsable.__init__" 5 0]
def fn : List He.DefD := fn0 ++ fn1 ++ fn2
def fa : List He.Fa := fnN.map He.Fa.glo ++ (xcN.map He.Fa.glo ++ biNames.map He.Fa.free)
def ca (Kf : PySem.W.Frag) (c : Nat) : Addr := He.ga Kf (xcN.getD c Str.empty)
def ex (Kf : PySem.W.Frag) : Bool := rz.all fun c => xcB Kf (ca Kf c) (flds c) && (decide (PySem.W.kitOne Kf (.ref (ca Kf c)) (.type "ValueError") = some (sub c 1000)) && (List.range xcN.length).all fun h => decide (PySem.W.exmOne Kf (.ref (ca Kf c)) (.ref (ca Kf h)) = some (sub c h)) && decide (PySem.W.kitOne Kf (.ref (ca Kf c)) (.ref (ca Kf h)) = some (sub c h)))
abbrev R : PySem.W.OpenRow := PySem.W.OpenLaw.row PySem.Challenge.rw_underthree_k01_kinds_quotients_and_clubs
abbrev hk : PySem.W.Hook := hookU 4 fa fn ex
def ob (s : PySem.W.SharedT) : Bool × List He.FnW := obsUG 4 fa fn ex (HandSHeadRun.getT s)
theorem ob_eq (s : PySem.W.SharedT) : ob s = hk.obs s.abs := obsUG_eq (HandSHeadRun.getT_eq s)
def loose0 : List Str := [Str.ofString "UnderError", Str.ofString "PaperError", Str.ofString "AskError", Str.ofString "InvalidPaper", Str.ofString "NotUsable", Str.ofString "is_integer", Str.ofString "is_number", Str.ofString "_divisor", Str.ofString "is_quotient", Str.ofString "is_stretch", Str.ofString "is_lot", Str.ofString "is_asks", Str.ofString "is_queue", Str.ofString "asks_of", Str.ofString "order_fault", Str.ofString "wide_asks", Str.ofString "covered", Str.ofString "clubs_of", Str.ofString "longest_end", Str.ofString "_asks_usable", Str.ofString "lets_asks", Str.ofString "quotient_of", Str.ofString "plus", Str.ofString "minus", Str.ofString "times", Str.ofString "less", Str.ofString "_both_quotients", Str.ofString "_lowest", Str.ofString "_law_nums", Str.ofString "_law_int"]
def loose1 : List Str := [Str.ofString "_law_number", Str.ofString "_law_same", Str.ofString "_law_divisor", Str.ofString "_law_quotient", Str.ofString "_law_stretch", Str.ofString "_law_lot", Str.ofString "_law_checked", Str.ofString "_law_fault", Str.ofString "_law_queue", Str.ofString "_law_line", Str.ofString "_law_share", Str.ofString "_law_clubs", Str.ofString "_law_call", Str.ofString "_law_made", Str.ofString "_law_stretches", Str.ofString "_law_things", Str.ofString "_law_kinds", Str.ofString "_law_fraction", Str.ofString "_law_lowest", Str.ofString "_law_stands", Str.ofString "_law_sums", Str.ofString "_law_refused", Str.ofString "_law_odd_sums", Str.ofString "_law_rows", Str.ofString "_law_spoilt"]
def loose : List Str := loose0 ++ loose1
theorem run (w : World) : HandSHeadRun.RunEq R (PySem.W.view R.prog [61]) hk ob 6000 loose w := by
  intro os
  kernel_rfl
def Pk (Kf : PySem.W.Frag) : Pg := ⟨ca Kf, flds, xa0, rz⟩
section
variable {Kf : PySem.W.Frag} {h : Heap} {mg : Str → Option Value}
theorem glo_fn {i : Nat} {x : Str} (e : fnN[i]? = some x) : He.Fa.glo x ∈ fa := List.mem_append_left _ (List.mem_map_of_mem (List.mem_of_getElem? e))
theorem glo_xc {i : Nat} {x : Str} (e : xcN[i]? = some x) : He.Fa.glo x ∈ fa := List.mem_append_right _ (List.mem_append_left _ (List.mem_map_of_mem (List.mem_of_getElem? e)))
theorem free_bi {x : Str} (e : x ∈ biNames) : He.Fa.free x ∈ fa := List.mem_append_right _ (List.mem_append_right _ (List.mem_map_of_mem e))
theorem d_is_integer (X : Kf.In h) (G : h.Ns mainGlobals mg) (c : SaysU fa fn ex Kf) : ∃ a fd, DfAt Kf mg cf T "is_integer" f_is_integer a fd :=
  df_of (st := top 7) N_is_integer (He.glo_ok X G (c.bools.1 _ (glo_fn (i := 0) rfl))) (c.def_ 0 (d := dd "is_integer" 7) rfl) (fun fd F => F.bindsN fun _ _ _ _ _ _ us hl => match us, hl with | [_], _ => rfl) (fun fd F => sh_cons (Uq.FunD.shp F fun _ _ _ _ _ _ us ws l1 l2 => match us, ws, l1, l2 with | [], [_], _, _ => rfl) (sh_nil)) rfl c_is_integer
theorem d_is_number (X : Kf.In h) (G : h.Ns mainGlobals mg) (c : SaysU fa fn ex Kf) : ∃ a fd, DfAt Kf mg cf T "is_number" f_is_number a fd :=
  df_of (st := top 8) N_is_number (He.glo_ok X G (c.bools.1 _ (glo_fn (i := 1) rfl))) (c.def_ 1 (d := dd "is_number" 8) rfl) (fun fd F => F.bindsN fun _ _ _ _ _ _ us hl => match us, hl with | [_], _ => rfl) (fun fd F => sh_cons (Uq.FunD.shp F fun _ _ _ _ _ _ us ws l1 l2 => match us, ws, l1, l2 with | [], [_], _, _ => rfl) (sh_nil)) rfl c_is_number
theorem d__divisor (X : Kf.In h) (G : h.Ns mainGlobals mg) (c : SaysU fa fn ex Kf) : ∃ a fd, DfAt Kf mg cf T "_divisor" f__divisor a fd :=
  df_of (st := top 9) N__divisor (He.glo_ok X G (c.bools.1 _ (glo_fn (i := 2) rfl))) (c.def_ 2 (d := dd "_divisor" 9) rfl) (fun fd F => F.bindsN fun _ _ _ _ _ _ us hl => match us, hl with | [_, _], _ => rfl) (fun fd F => sh_nil) rfl c__divisor
theorem d_is_quotient (X : Kf.In h) (G : h.Ns mainGlobals mg) (c : SaysU fa fn ex Kf) : ∃ a fd, DfAt Kf mg cf T "is_quotient" f_is_quotient a fd :=
  df_of (st := top 10) N_is_quotient (He.glo_ok X G (c.bools.1 _ (glo_fn (i := 3) rfl))) (c.def_ 3 (d := dd "is_quotient" 10) rfl) (fun fd F => F.bindsN fun _ _ _ _ _ _ us hl => match us, hl with | [_], _ => rfl) (fun fd F => sh_cons (Uq.FunD.shp F fun _ _ _ _ _ _ us ws l1 l2 => match us, ws, l1, l2 with | [], [_], _, _ => rfl) (sh_nil)) rfl c_is_quotient
theorem d_is_stretch (X : Kf.In h) (G : h.Ns mainGlobals mg) (c : SaysU fa fn ex Kf) : ∃ a fd, DfAt Kf mg cf T "is_stretch" f_is_stretch a fd :=
  df_of (st := top 11) N_is_stretch (He.glo_ok X G (c.bools.1 _ (glo_fn (i := 4) rfl))) (c.def_ 4 (d := dd "is_stretch" 11) rfl) (fun fd F => F.bindsN fun _ _ _ _ _ _ us hl => match us, hl with | [_], _ => rfl) (fun fd F => sh_cons (Uq.FunD.shp F fun _ _ _ _ _ _ us ws l1 l2 => match us, ws, l1, l2 with | [], [_], _, _ => rfl) (sh_nil)) rfl c_is_stretch
theorem d_is_lot (X : Kf.In h) (G : h.Ns mainGlobals mg) (c : SaysU fa fn ex Kf) : ∃ a fd, DfAt Kf mg cf T "is_lot" f_is_lot a fd :=
  df_of (st := top 12) N_is_lot (He.glo_ok X G (c.bools.1 _ (glo_fn (i := 5) rfl))) (c.def_ 5 (d := dd "is_lot" 12) rfl) (fun fd F => F.bindsN fun _ _ _ _ _ _ us hl => match us, hl with | [_], _ => rfl) (fun fd F => sh_cons (Uq.FunD.shp F fun _ _ _ _ _ _ us ws l1 l2 => match us, ws, l1, l2 with | [], [_], _, _ => rfl) (sh_nil)) rfl c_is_lot
theorem d_is_asks (X : Kf.In h) (G : h.Ns mainGlobals mg) (c : SaysU fa fn ex Kf) : ∃ a fd, DfAt Kf mg cf T "is_asks" f_is_asks a fd :=
  df_of (st := top 13) N_is_asks (He.glo_ok X G (c.bools.1 _ (glo_fn (i := 6) rfl))) (c.def_ 6 (d := dd "is_asks" 13) rfl) (fun fd F => F.bindsN fun _ _ _ _ _ _ us hl => match us, hl with | [_], _ => rfl) (fun fd F => sh_cons (Uq.FunD.shp F fun _ _ _ _ _ _ us ws l1 l2 => match us, ws, l1, l2 with | [], [_], _, _ => rfl) (sh_nil)) rfl c_is_asks
theorem d_is_queue (X : Kf.In h) (G : h.Ns mainGlobals mg) (c : SaysU fa fn ex Kf) : ∃ a fd, DfAt Kf mg cf T "is_queue" f_is_queue a fd :=
  df_of (st := top 14) N_is_queue (He.glo_ok X G (c.bools.1 _ (glo_fn (i := 7) rfl))) (c.def_ 7 (d := dd "is_queue" 14) rfl) (fun fd F => F.bindsN fun _ _ _ _ _ _ us hl => match us, hl with | [_], _ => rfl) (fun fd F => sh_cons (Uq.FunD.shp F fun _ _ _ _ _ _ us ws l1 l2 => match us, ws, l1, l2 with | [], [_], _, _ => rfl) (sh_nil)) rfl c_is_queue
theorem d_asks_of (X : Kf.In h) (G : h.Ns mainGlobals mg) (c : SaysU fa fn ex Kf) : ∃ a fd, DfAtV Kf mg cf T "asks_of" f_asks_of a fd :=
  df_ofV (st := top 16) N_asks_of (He.glo_ok X G (c.bools.1 _ (glo_fn (i := 8) rfl))) (c.def_ 8 (d := dd "asks_of" 16) rfl) (fun fd F => Uq.FunD.bndV F fun _ _ _ _ _ _ us => match us with | [] => rfl | _ :: _ => rfl) rfl rfl c_asks_of
theorem d_order_fault (X : Kf.In h) (G : h.Ns mainGlobals mg) (c : SaysU fa fn ex Kf) : ∃ a fd, DfAt Kf mg cf T "order_fault" f_order_fault a fd :=
  df_of (st := top 17) N_order_fault (He.glo_ok X G (c.bools.1 _ (glo_fn (i := 9) rfl))) (c.def_ 9 (d := dd "order_fault" 17) rfl) (fun fd F => F.bindsN fun _ _ _ _ _ _ us hl => match us, hl with | [_], _ => rfl) (fun fd F => sh_cons (Uq.FunD.shp F fun _ _ _ _ _ _ us ws l1 l2 => match us, ws, l1, l2 with | [], [_], _, _ => rfl) (sh_nil)) rfl c_order_fault
theorem d_wide_asks (X : Kf.In h) (G : h.Ns mainGlobals mg) (c : SaysU fa fn ex Kf) : ∃ a fd, DfAt Kf mg cf T "wide_asks" f_wide_asks a fd :=
  df_of (st := top 18) N_wide_asks (He.glo_ok X G (c.bools.1 _ (glo_fn (i := 10) rfl))) (c.def_ 10 (d := dd "wide_asks" 18) rfl) (fun fd F => F.bindsN fun _ _ _ _ _ _ us hl => match us, hl with | [_], _ => rfl) (fun fd F => sh_cons (Uq.FunD.shp F fun _ _ _ _ _ _ us ws l1 l2 => match us, ws, l1, l2 with | [], [_], _, _ => rfl) (sh_nil)) rfl c_wide_asks
theorem d_covered (X : Kf.In h) (G : h.Ns mainGlobals mg) (c : SaysU fa fn ex Kf) : ∃ a fd, DfAt Kf mg cf T "covered" f_covered a fd :=
  df_of (st := top 19) N_covered (He.glo_ok X G (c.bools.1 _ (glo_fn (i := 11) rfl))) (c.def_ 11 (d := dd "covered" 19) rfl) (fun fd F => F.bindsN fun _ _ _ _ _ _ us hl => match us, hl with | [_], _ => rfl) (fun fd F => sh_cons (Uq.FunD.shp F fun _ _ _ _ _ _ us ws l1 l2 => match us, ws, l1, l2 with | [], [_], _, _ => rfl) (sh_nil)) rfl c_covered
theorem d_clubs_of (X : Kf.In h) (G : h.Ns mainGlobals mg) (c : SaysU fa fn ex Kf) : ∃ a fd, DfAt Kf mg cf T "clubs_of" f_clubs_of a fd :=
  df_of (st := top 20) N_clubs_of (He.glo_ok X G (c.bools.1 _ (glo_fn (i := 12) rfl))) (c.def_ 12 (d := dd "clubs_of" 20) rfl) (fun fd F => F.bindsN fun _ _ _ _ _ _ us hl => match us, hl with | [_], _ => rfl) (fun fd F => sh_cons (Uq.FunD.shp F fun _ _ _ _ _ _ us ws l1 l2 => match us, ws, l1, l2 with | [], [_], _, _ => rfl) (sh_nil)) rfl c_clubs_of
theorem d_longest_end (X : Kf.In h) (G : h.Ns mainGlobals mg) (c : SaysU fa fn ex Kf) : ∃ a fd, DfAt Kf mg cf T "longest_end" f_longest_end a fd :=
  df_of (st := top 21) N_longest_end (He.glo_ok X G (c.bools.1 _ (glo_fn (i := 13) rfl))) (c.def_ 13 (d := dd "longest_end" 21) rfl) (fun fd F => F.bindsN fun _ _ _ _ _ _ us hl => match us, hl with | [_], _ => rfl) (fun fd F => sh_cons (Uq.FunD.shp F fun _ _ _ _ _ _ us ws l1 l2 => match us, ws, l1, l2 with | [], [_], _, _ => rfl) (sh_nil)) rfl c_longest_end
theorem d__asks_usable (X : Kf.In h) (G : h.Ns mainGlobals mg) (c : SaysU fa fn ex Kf) : ∃ a fd, DfAt Kf mg cf T "_asks_usable" f__asks_usable a fd :=
  df_of (st := top 22) N__asks_usable (He.glo_ok X G (c.bools.1 _ (glo_fn (i := 14) rfl))) (c.def_ 14 (d := dd "_asks_usable" 22) rfl) (fun fd F => F.bindsN fun _ _ _ _ _ _ us hl => match us, hl with | [_], _ => rfl) (fun fd F => sh_nil) rfl c__asks_usable
theorem d_lets_asks (X : Kf.In h) (G : h.Ns mainGlobals mg) (c : SaysU fa fn ex Kf) : ∃ a fd, DfAt Kf mg cf T "lets_asks" f_lets_asks a fd :=
  df_of (st := top 24) N_lets_asks (He.glo_ok X G (c.bools.1 _ (glo_fn (i := 15) rfl))) (c.def_ 15 (d := dd "lets_asks" 24) rfl) (fun fd F => F.bindsN fun _ _ _ _ _ _ us hl => match us, hl with | [_], _ => rfl) (fun fd F => sh_cons (Uq.FunD.shp F fun _ _ _ _ _ _ us ws l1 l2 => match us, ws, l1, l2 with | [], [_], _, _ => rfl) (sh_nil)) rfl c_lets_asks
theorem d_quotient_of (X : Kf.In h) (G : h.Ns mainGlobals mg) (c : SaysU fa fn ex Kf) : ∃ a fd, DfAt Kf mg cf T "quotient_of" f_quotient_of a fd :=
  df_of (st := top 26) N_quotient_of (He.glo_ok X G (c.bools.1 _ (glo_fn (i := 16) rfl))) (c.def_ 16 (d := dd "quotient_of" 26) rfl) (fun fd F => F.bindsN fun _ _ _ _ _ _ us hl => match us, hl with | [_, _], _ => rfl) (fun fd F => sh_cons (Uq.FunD.shp F fun _ _ _ _ _ _ us ws l1 l2 => match us, ws, l1, l2 with | [], [_, _], _, _ => rfl) (sh_nil)) rfl c_quotient_of
theorem d_plus (X : Kf.In h) (G : h.Ns mainGlobals mg) (c : SaysU fa fn ex Kf) : ∃ a fd, DfAt Kf mg cf T "plus" f_plus a fd :=
  df_of (st := top 27) N_plus (He.glo_ok X G (c.bools.1 _ (glo_fn (i := 17) rfl))) (c.def_ 17 (d := dd "plus" 27) rfl) (fun fd F => F.bindsN fun _ _ _ _ _ _ us hl => match us, hl with | [_, _], _ => rfl) (fun fd F => sh_cons (Uq.FunD.shp F fun _ _ _ _ _ _ us ws l1 l2 => match us, ws, l1, l2 with | [], [_, _], _, _ => rfl) (sh_nil)) rfl c_plus
theorem d_minus (X : Kf.In h) (G : h.Ns mainGlobals mg) (c : SaysU fa fn ex Kf) : ∃ a fd, DfAt Kf mg cf T "minus" f_minus a fd :=
  df_of (st := top 28) N_minus (He.glo_ok X G (c.bools.1 _ (glo_fn (i := 18) rfl))) (c.def_ 18 (d := dd "minus" 28) rfl) (fun fd F => F.bindsN fun _ _ _ _ _ _ us hl => match us, hl with | [_, _], _ => rfl) (fun fd F => sh_cons (Uq.FunD.shp F fun _ _ _ _ _ _ us ws l1 l2 => match us, ws, l1, l2 with | [], [_, _], _, _ => rfl) (sh_nil)) rfl c_minus
theorem d_times (X : Kf.In h) (G : h.Ns mainGlobals mg) (c : SaysU fa fn ex Kf) : ∃ a fd, DfAt Kf mg cf T "times" f_times a fd :=
  df_of (st := top 29) N_times (He.glo_ok X G (c.bools.1 _ (glo_fn (i := 19) rfl))) (c.def_ 19 (d := dd "times" 29) rfl) (fun fd F => F.bindsN fun _ _ _ _ _ _ us hl => match us, hl with | [_, _], _ => rfl) (fun fd F => sh_cons (Uq.FunD.shp F fun _ _ _ _ _ _ us ws l1 l2 => match us, ws, l1, l2 with | [], [_, _], _, _ => rfl) (sh_nil)) rfl c_times
theorem d_less (X : Kf.In h) (G : h.Ns mainGlobals mg) (c : SaysU fa fn ex Kf) : ∃ a fd, DfAt Kf mg cf T "less" f_less a fd :=
  df_of (st := top 30) N_less (He.glo_ok X G (c.bools.1 _ (glo_fn (i := 20) rfl))) (c.def_ 20 (d := dd "less" 30) rfl) (fun fd F => F.bindsN fun _ _ _ _ _ _ us hl => match us, hl with | [_, _], _ => rfl) (fun fd F => sh_cons (Uq.FunD.shp F fun _ _ _ _ _ _ us ws l1 l2 => match us, ws, l1, l2 with | [], [_, _], _, _ => rfl) (sh_nil)) rfl c_less
theorem d__both_quotients (X : Kf.In h) (G : h.Ns mainGlobals mg) (c : SaysU fa fn ex Kf) : ∃ a fd, DfAt Kf mg cf T "_both_quotients" f__both_quotients a fd :=
  df_of (st := top 31) N__both_quotients (He.glo_ok X G (c.bools.1 _ (glo_fn (i := 21) rfl))) (c.def_ 21 (d := dd "_both_quotients" 31) rfl) (fun fd F => F.bindsN fun _ _ _ _ _ _ us hl => match us, hl with | [_, _], _ => rfl) (fun fd F => sh_nil) rfl c__both_quotients
theorem d__lowest (X : Kf.In h) (G : h.Ns mainGlobals mg) (c : SaysU fa fn ex Kf) : ∃ a fd, DfAt Kf mg cf T "_lowest" f__lowest a fd :=
  df_of (st := top 32) N__lowest (He.glo_ok X G (c.bools.1 _ (glo_fn (i := 22) rfl))) (c.def_ 22 (d := dd "_lowest" 32) rfl) (fun fd F => F.bindsN fun _ _ _ _ _ _ us hl => match us, hl with | [_, _], _ => rfl) (fun fd F => sh_nil) rfl c__lowest
theorem d__law_nums (X : Kf.In h) (G : h.Ns mainGlobals mg) (c : SaysU fa fn ex Kf) : ∃ a fd, DfAt Kf mg cf T "_law_nums" f__law_nums a fd :=
  df_of (st := top 34) N__law_nums (He.glo_ok X G (c.bools.1 _ (glo_fn (i := 23) rfl))) (c.def_ 23 (d := dd "_law_nums" 34) rfl) (fun fd F => F.bindsN fun _ _ _ _ _ _ us hl => match us, hl with | [_, _, _], _ => rfl) (fun fd F => sh_nil) rfl c__law_nums
theorem d__law_int (X : Kf.In h) (G : h.Ns mainGlobals mg) (c : SaysU fa fn ex Kf) : ∃ a fd, DfAt Kf mg cf T "_law_int" f__law_int a fd :=
  df_of (st := top 35) N__law_int (He.glo_ok X G (c.bools.1 _ (glo_fn (i := 24) rfl))) (c.def_ 24 (d := dd "_law_int" 35) rfl) (fun fd F => F.bindsN fun _ _ _ _ _ _ us hl => match us, hl with | [_], _ => rfl) (fun fd F => sh_nil) rfl c__law_int
theorem d__law_number (X : Kf.In h) (G : h.Ns mainGlobals mg) (c : SaysU fa fn ex Kf) : ∃ a fd, DfAt Kf mg cf T "_law_number" f__law_number a fd :=
  df_of (st := top 36) N__law_number (He.glo_ok X G (c.bools.1 _ (glo_fn (i := 25) rfl))) (c.def_ 25 (d := dd "_law_number" 36) rfl) (fun fd F => F.bindsN fun _ _ _ _ _ _ us hl => match us, hl with | [_], _ => rfl) (fun fd F => sh_nil) rfl c__law_number
theorem d__law_same (X : Kf.In h) (G : h.Ns mainGlobals mg) (c : SaysU fa fn ex Kf) : ∃ a fd, DfAt Kf mg cf T "_law_same" f__law_same a fd :=
  df_of (st := top 37) N__law_same (He.glo_ok X G (c.bools.1 _ (glo_fn (i := 26) rfl))) (c.def_ 26 (d := dd "_law_same" 37) rfl) (fun fd F => F.bindsN fun _ _ _ _ _ _ us hl => match us, hl with | [_, _], _ => rfl) (fun fd F => sh_nil) rfl c__law_same
theorem d__law_divisor (X : Kf.In h) (G : h.Ns mainGlobals mg) (c : SaysU fa fn ex Kf) : ∃ a fd, DfAt Kf mg cf T "_law_divisor" f__law_divisor a fd :=
  df_of (st := top 38) N__law_divisor (He.glo_ok X G (c.bools.1 _ (glo_fn (i := 27) rfl))) (c.def_ 27 (d := dd "_law_divisor" 38) rfl) (fun fd F => F.bindsN fun _ _ _ _ _ _ us hl => match us, hl with | [_, _], _ => rfl) (fun fd F => sh_nil) rfl c__law_divisor
theorem d__law_quotient (X : Kf.In h) (G : h.Ns mainGlobals mg) (c : SaysU fa fn ex Kf) : ∃ a fd, DfAt Kf mg cf T "_law_quotient" f__law_quotient a fd :=
  df_of (st := top 39) N__law_quotient (He.glo_ok X G (c.bools.1 _ (glo_fn (i := 28) rfl))) (c.def_ 28 (d := dd "_law_quotient" 39) rfl) (fun fd F => F.bindsN fun _ _ _ _ _ _ us hl => match us, hl with | [_], _ => rfl) (fun fd F => sh_nil) rfl c__law_quotient
theorem d__law_stretch (X : Kf.In h) (G : h.Ns mainGlobals mg) (c : SaysU fa fn ex Kf) : ∃ a fd, DfAt Kf mg cf T "_law_stretch" f__law_stretch a fd :=
  df_of (st := top 40) N__law_stretch (He.glo_ok X G (c.bools.1 _ (glo_fn (i := 29) rfl))) (c.def_ 29 (d := dd "_law_stretch" 40) rfl) (fun fd F => F.bindsN fun _ _ _ _ _ _ us hl => match us, hl with | [_], _ => rfl) (fun fd F => sh_nil) rfl c__law_stretch
theorem d__law_lot (X : Kf.In h) (G : h.Ns mainGlobals mg) (c : SaysU fa fn ex Kf) : ∃ a fd, DfAt Kf mg cf T "_law_lot" f__law_lot a fd :=
  df_of (st := top 41) N__law_lot (He.glo_ok X G (c.bools.1 _ (glo_fn (i := 30) rfl))) (c.def_ 30 (d := dd "_law_lot" 41) rfl) (fun fd F => F.bindsN fun _ _ _ _ _ _ us hl => match us, hl with | [_], _ => rfl) (fun fd F => sh_nil) rfl c__law_lot
theorem d__law_checked (X : Kf.In h) (G : h.Ns mainGlobals mg) (c : SaysU fa fn ex Kf) : ∃ a fd, DfAt Kf mg cf T "_law_checked" f__law_checked a fd :=
  df_of (st := top 42) N__law_checked (He.glo_ok X G (c.bools.1 _ (glo_fn (i := 31) rfl))) (c.def_ 31 (d := dd "_law_checked" 42) rfl) (fun fd F => F.bindsN fun _ _ _ _ _ _ us hl => match us, hl with | [_], _ => rfl) (fun fd F => sh_nil) rfl c__law_checked
theorem d__law_fault (X : Kf.In h) (G : h.Ns mainGlobals mg) (c : SaysU fa fn ex Kf) : ∃ a fd, DfAt Kf mg cf T "_law_fault" f__law_fault a fd :=
  df_of (st := top 43) N__law_fault (He.glo_ok X G (c.bools.1 _ (glo_fn (i := 32) rfl))) (c.def_ 32 (d := dd "_law_fault" 43) rfl) (fun fd F => F.bindsN fun _ _ _ _ _ _ us hl => match us, hl with | [_], _ => rfl) (fun fd F => sh_nil) rfl c__law_fault
theorem d__law_queue (X : Kf.In h) (G : h.Ns mainGlobals mg) (c : SaysU fa fn ex Kf) : ∃ a fd, DfAt Kf mg cf T "_law_queue" f__law_queue a fd :=
  df_of (st := top 44) N__law_queue (He.glo_ok X G (c.bools.1 _ (glo_fn (i := 33) rfl))) (c.def_ 33 (d := dd "_law_queue" 44) rfl) (fun fd F => F.bindsN fun _ _ _ _ _ _ us hl => match us, hl with | [_], _ => rfl) (fun fd F => sh_nil) rfl c__law_queue
theorem d__law_line (X : Kf.In h) (G : h.Ns mainGlobals mg) (c : SaysU fa fn ex Kf) : ∃ a fd, DfAt Kf mg cf T "_law_line" f__law_line a fd :=
  df_of (st := top 45) N__law_line (He.glo_ok X G (c.bools.1 _ (glo_fn (i := 34) rfl))) (c.def_ 34 (d := dd "_law_line" 45) rfl) (fun fd F => F.bindsN fun _ _ _ _ _ _ us hl => match us, hl with | [_], _ => rfl) (fun fd F => sh_nil) rfl c__law_line
theorem d__law_share (X : Kf.In h) (G : h.Ns mainGlobals mg) (c : SaysU fa fn ex Kf) : ∃ a fd, DfAt Kf mg cf T "_law_share" f__law_share a fd :=
  df_of (st := top 46) N__law_share (He.glo_ok X G (c.bools.1 _ (glo_fn (i := 35) rfl))) (c.def_ 35 (d := dd "_law_share" 46) rfl) (fun fd F => F.bindsN fun _ _ _ _ _ _ us hl => match us, hl with | [_, _], _ => rfl) (fun fd F => sh_nil) rfl c__law_share
theorem d__law_clubs (X : Kf.In h) (G : h.Ns mainGlobals mg) (c : SaysU fa fn ex Kf) : ∃ a fd, DfAt Kf mg cf T "_law_clubs" f__law_clubs a fd :=
  df_of (st := top 47) N__law_clubs (He.glo_ok X G (c.bools.1 _ (glo_fn (i := 36) rfl))) (c.def_ 36 (d := dd "_law_clubs" 47) rfl) (fun fd F => F.bindsN fun _ _ _ _ _ _ us hl => match us, hl with | [_], _ => rfl) (fun fd F => sh_nil) rfl c__law_clubs
theorem d__law_call (X : Kf.In h) (G : h.Ns mainGlobals mg) (c : SaysU fa fn ex Kf) : ∃ a fd, DfAt Kf mg cf T "_law_call" f__law_call a fd :=
  df_of (st := top 48) N__law_call (He.glo_ok X G (c.bools.1 _ (glo_fn (i := 37) rfl))) (c.def_ 37 (d := dd "_law_call" 48) rfl) (fun fd F => F.bindsN fun _ _ _ _ _ _ us hl => match us, hl with | [_, _, _], _ => rfl) (fun fd F => sh_nil) rfl c__law_call
theorem d__law_made (X : Kf.In h) (G : h.Ns mainGlobals mg) (c : SaysU fa fn ex Kf) : ∃ a fd, DfAt Kf mg cf T "_law_made" f__law_made a fd :=
  df_of (st := top 49) N__law_made (He.glo_ok X G (c.bools.1 _ (glo_fn (i := 38) rfl))) (c.def_ 38 (d := dd "_law_made" 49) rfl) (fun fd F => F.bindsN fun _ _ _ _ _ _ us hl => match us, hl with | [_], _ => rfl) (fun fd F => sh_nil) rfl c__law_made
theorem d__law_stretches (X : Kf.In h) (G : h.Ns mainGlobals mg) (c : SaysU fa fn ex Kf) : ∃ a fd, DfAt Kf mg cf T "_law_stretches" f__law_stretches a fd :=
  df_of (st := top 50) N__law_stretches (He.glo_ok X G (c.bools.1 _ (glo_fn (i := 39) rfl))) (c.def_ 39 (d := dd "_law_stretches" 50) rfl) (fun fd F => F.bindsN fun _ _ _ _ _ _ us hl => match us, hl with | [_], _ => rfl) (fun fd F => sh_nil) rfl c__law_stretches
theorem d__law_things (X : Kf.In h) (G : h.Ns mainGlobals mg) (c : SaysU fa fn ex Kf) : ∃ a fd, DfAt Kf mg cf T "_law_things" f__law_things a fd :=
  df_of (st := top 51) N__law_things (He.glo_ok X G (c.bools.1 _ (glo_fn (i := 40) rfl))) (c.def_ 40 (d := dd "_law_things" 51) rfl) (fun fd F => F.bindsN fun _ _ _ _ _ _ us hl => match us, hl with | [_, _], _ => rfl) (fun fd F => sh_nil) rfl c__law_things
theorem d__law_kinds (X : Kf.In h) (G : h.Ns mainGlobals mg) (c : SaysU fa fn ex Kf) : ∃ a fd, DfAt Kf mg cf T "_law_kinds" f__law_kinds a fd :=
  df_of (st := top 52) N__law_kinds (He.glo_ok X G (c.bools.1 _ (glo_fn (i := 41) rfl))) (c.def_ 41 (d := dd "_law_kinds" 52) rfl) (fun fd F => F.bindsN fun _ _ _ _ _ _ us hl => match us, hl with | [_, _], _ => rfl) (fun fd F => sh_nil) rfl c__law_kinds
theorem d__law_fraction (X : Kf.In h) (G : h.Ns mainGlobals mg) (c : SaysU fa fn ex Kf) : ∃ a fd, DfAt Kf mg cf T "_law_fraction" f__law_fraction a fd :=
  df_of (st := top 53) N__law_fraction (He.glo_ok X G (c.bools.1 _ (glo_fn (i := 42) rfl))) (c.def_ 42 (d := dd "_law_fraction" 53) rfl) (fun fd F => F.bindsN fun _ _ _ _ _ _ us hl => match us, hl with | [_], _ => rfl) (fun fd F => sh_nil) rfl c__law_fraction
theorem d__law_lowest (X : Kf.In h) (G : h.Ns mainGlobals mg) (c : SaysU fa fn ex Kf) : ∃ a fd, DfAt Kf mg cf T "_law_lowest" f__law_lowest a fd :=
  df_of (st := top 54) N__law_lowest (He.glo_ok X G (c.bools.1 _ (glo_fn (i := 43) rfl))) (c.def_ 43 (d := dd "_law_lowest" 54) rfl) (fun fd F => F.bindsN fun _ _ _ _ _ _ us hl => match us, hl with | [_], _ => rfl) (fun fd F => sh_nil) rfl c__law_lowest
theorem d__law_stands (X : Kf.In h) (G : h.Ns mainGlobals mg) (c : SaysU fa fn ex Kf) : ∃ a fd, DfAt Kf mg cf T "_law_stands" f__law_stands a fd :=
  df_of (st := top 55) N__law_stands (He.glo_ok X G (c.bools.1 _ (glo_fn (i := 44) rfl))) (c.def_ 44 (d := dd "_law_stands" 55) rfl) (fun fd F => F.bindsN fun _ _ _ _ _ _ us hl => match us, hl with | [_, _, _], _ => rfl) (fun fd F => sh_nil) rfl c__law_stands
theorem d__law_sums (X : Kf.In h) (G : h.Ns mainGlobals mg) (c : SaysU fa fn ex Kf) : ∃ a fd, DfAt Kf mg cf T "_law_sums" f__law_sums a fd :=
  df_of (st := top 56) N__law_sums (He.glo_ok X G (c.bools.1 _ (glo_fn (i := 45) rfl))) (c.def_ 45 (d := dd "_law_sums" 56) rfl) (fun fd F => F.bindsN fun _ _ _ _ _ _ us hl => match us, hl with | [_, _], _ => rfl) (fun fd F => sh_nil) rfl c__law_sums
theorem d__law_refused (X : Kf.In h) (G : h.Ns mainGlobals mg) (c : SaysU fa fn ex Kf) : ∃ a fd, DfAt Kf mg cf T "_law_refused" f__law_refused a fd :=
  df_of (st := top 57) N__law_refused (He.glo_ok X G (c.bools.1 _ (glo_fn (i := 46) rfl))) (c.def_ 46 (d := dd "_law_refused" 57) rfl) (fun fd F => F.bindsN fun _ _ _ _ _ _ us hl => match us, hl with | [_, _, _, _], _ => rfl) (fun fd F => sh_nil) rfl c__law_refused
theorem d__law_odd_sums (X : Kf.In h) (G : h.Ns mainGlobals mg) (c : SaysU fa fn ex Kf) : ∃ a fd, DfAt Kf mg cf T "_law_odd_sums" f__law_odd_sums a fd :=
  df_of (st := top 58) N__law_odd_sums (He.glo_ok X G (c.bools.1 _ (glo_fn (i := 47) rfl))) (c.def_ 47 (d := dd "_law_odd_sums" 58) rfl) (fun fd F => F.bindsN fun _ _ _ _ _ _ us hl => match us, hl with | [_, _], _ => rfl) (fun fd F => sh_nil) rfl c__law_odd_sums
theorem d__law_rows (X : Kf.In h) (G : h.Ns mainGlobals mg) (c : SaysU fa fn ex Kf) : ∃ a fd, DfAt Kf mg cf T "_law_rows" f__law_rows a fd :=
  df_of (st := top 59) N__law_rows (He.glo_ok X G (c.bools.1 _ (glo_fn (i := 48) rfl))) (c.def_ 48 (d := dd "_law_rows" 59) rfl) (fun fd F => F.bindsN fun _ _ _ _ _ _ us hl => match us, hl with | [_], _ => rfl) (fun fd F => sh_nil) rfl c__law_rows
theorem d__law_spoilt (X : Kf.In h) (G : h.Ns mainGlobals mg) (c : SaysU fa fn ex Kf) : ∃ a fd, DfAt Kf mg cf T "_law_spoilt" f__law_spoilt a fd :=
  df_of (st := top 60) N__law_spoilt (He.glo_ok X G (c.bools.1 _ (glo_fn (i := 49) rfl))) (c.def_ 49 (d := dd "_law_spoilt" 60) rfl) (fun fd F => F.bindsN fun _ _ _ _ _ _ us hl => match us, hl with | [_, _], _ => rfl) (fun fd F => sh_nil) rfl c__law_spoilt
theorem d_law (X : Kf.In h) (G : h.Ns mainGlobals mg) (c : SaysU fa fn ex Kf) : ∃ a fd, DfAt Kf mg cf T "law" f_law a fd :=
  df_of (st := top 61) N_law (He.glo_ok X G (c.bools.1 _ (glo_fn (i := 50) rfl))) (c.def_ 50 (d := dd "law" 61) rfl) (fun fd F => F.bindsN fun _ _ _ _ _ _ us hl => match us, hl with | [_], _ => rfl) (fun fd F => sh_nil) rfl c_law
theorem d_law1 (X : Kf.In h) (G : h.Ns mainGlobals mg) (c : SaysU fa fn ex Kf) : ∃ a fd, DfAt Kf mg cf T "law" f_law a fd ∧ ∀ (s : Shared) (us : List Value), us.length = 1 → BindsTo s fd ⟨us, []⟩ ((prms f_law).zip us) :=
  let ⟨fd, F⟩ := c.def_ 50 (d := dd "law" 61) rfl
  ⟨_, fd, df_at (st := top 61) N_law (He.glo_ok X G (c.bools.1 _ (glo_fn (i := 50) rfl))) F (F.bindsN fun _ _ _ _ _ _ us hl => match us, hl with | [_], _ => rfl) sh_nil rfl c_law, fun s us hl => FunD.bindsA (ps := prms f_law) F (fun _ _ _ _ _ _ us hl => match us, hl with | [_], _ => rfl) s us hl⟩
theorem exB (c : SaysU fa fn ex Kf) {k : Nat} (hk : k ∈ rz) : xcB Kf (ca Kf k) (flds k) = true ∧ PySem.W.kitOne Kf (.ref (ca Kf k)) (.type "ValueError") = some (sub k 1000) ∧ ∀ j, j < xcN.length → PySem.W.exmOne Kf (.ref (ca Kf k)) (.ref (ca Kf j)) = some (sub k j) ∧ PySem.W.kitOne Kf (.ref (ca Kf k)) (.ref (ca Kf j)) = some (sub k j) := by
  have e := c.bools.2.2
  unfold ex at e
  have q := List.all_eq_true.mp e k hk
  simp only [Bool.and_eq_true, decide_eq_true_eq, List.all_eq_true, List.mem_range] at q
  exact q
theorem m_InvalidPaper {prog : Program} {w : World} {base : Heap} (c : SaysU fa fn ex Kf) : XMk prog w Kf mg base (ca Kf 3) (flds 3) :=
  let ⟨fd, F⟩ := c.def_ 51 (d := di "InvalidPaper" "InvalidPaper.__init__" 4 0) rfl
  made_of (xcB_ok (exB c (k := 3) (by decide)).1) F (F.bindsN fun _ _ _ _ _ _ us hl => match us, hl with | [_, _, _], _ => rfl) i_InvalidPaper
theorem m_NotUsable {prog : Program} {w : World} {base : Heap} (c : SaysU fa fn ex Kf) : XMk prog w Kf mg base (ca Kf 4) (flds 4) :=
  let ⟨fd, F⟩ := c.def_ 52 (d := di "NotUsable" "NotUsable.__init__" 5 0) rfl
  made_of (xcB_ok (exB c (k := 4) (by decide)).1) F (F.bindsN fun _ _ _ _ _ _ us hl => match us, hl with | [_, _, _], _ => rfl) i_NotUsable
theorem fns (X : Kf.In h) (G : h.Ns mainGlobals mg) (c : SaysU fa fn ex Kf) : ∀ (f : Nat) (x : Str), fnN[f]? = some x → vaN.contains x = false → ∃ a fd, DfAt Kf mg cf T x f a fd
  | 0, _, rfl, _ => d_is_integer X G c
  | 1, _, rfl, _ => d_is_number X G c
  | 2, _, rfl, _ => d__divisor X G c
  | 3, _, rfl, _ => d_is_quotient X G c
  | 4, _, rfl, _ => d_is_stretch X G c
  | 5, _, rfl, _ => d_is_lot X G c
  | 6, _, rfl, _ => d_is_asks X G c
  | 7, _, rfl, _ => d_is_queue X G c
  | 8, _, rfl, h => by cases (show true = false from h)
  | 9, _, rfl, _ => d_order_fault X G c
  | 10, _, rfl, _ => d_wide_asks X G c
  | 11, _, rfl, _ => d_covered X G c
  | 12, _, rfl, _ => d_clubs_of X G c
  | 13, _, rfl, _ => d_longest_end X G c
  | 14, _, rfl, _ => d__asks_usable X G c
  | 15, _, rfl, _ => d_lets_asks X G c
  | 16, _, rfl, _ => d_quotient_of X G c
  | 17, _, rfl, _ => d_plus X G c
  | 18, _, rfl, _ => d_minus X G c
  | 19, _, rfl, _ => d_times X G c
  | 20, _, rfl, _ => d_less X G c
  | 21, _, rfl, _ => d__both_quotients X G c
  | 22, _, rfl, _ => d__lowest X G c
  | 23, _, rfl, _ => d__law_nums X G c
  | 24, _, rfl, _ => d__law_int X G c
  | 25, _, rfl, _ => d__law_number X G c
  | 26, _, rfl, _ => d__law_same X G c
  | 27, _, rfl, _ => d__law_divisor X G c
  | 28, _, rfl, _ => d__law_quotient X G c
  | 29, _, rfl, _ => d__law_stretch X G c
  | 30, _, rfl, _ => d__law_lot X G c
  | 31, _, rfl, _ => d__law_checked X G c
  | 32, _, rfl, _ => d__law_fault X G c
  | 33, _, rfl, _ => d__law_queue X G c
  | 34, _, rfl, _ => d__law_line X G c
  | 35, _, rfl, _ => d__law_share X G c
  | 36, _, rfl, _ => d__law_clubs X G c
  | 37, _, rfl, _ => d__law_call X G c
  | 38, _, rfl, _ => d__law_made X G c
  | 39, _, rfl, _ => d__law_stretches X G c
  | 40, _, rfl, _ => d__law_things X G c
  | 41, _, rfl, _ => d__law_kinds X G c
  | 42, _, rfl, _ => d__law_fraction X G c
  | 43, _, rfl, _ => d__law_lowest X G c
  | 44, _, rfl, _ => d__law_stands X G c
  | 45, _, rfl, _ => d__law_sums X G c
  | 46, _, rfl, _ => d__law_refused X G c
  | 47, _, rfl, _ => d__law_odd_sums X G c
  | 48, _, rfl, _ => d__law_rows X G c
  | 49, _, rfl, _ => d__law_spoilt X G c
  | 50, _, rfl, _ => d_law X G c
  | n + 51, _, e, _ => by cases e
theorem fvs (X : Kf.In h) (G : h.Ns mainGlobals mg) (c : SaysU fa fn ex Kf) : ∀ (f : Nat) (x : Str), fnN[f]? = some x → vaN.contains x = true → ∃ a fd, DfAtV Kf mg cf T x f a fd
  | 0, _, rfl, h => absurd h (by decide +kernel)
  | 1, _, rfl, h => absurd h (by decide +kernel)
  | 2, _, rfl, h => absurd h (by decide +kernel)
  | 3, _, rfl, h => absurd h (by decide +kernel)
  | 4, _, rfl, h => absurd h (by decide +kernel)
  | 5, _, rfl, h => absurd h (by decide +kernel)
  | 6, _, rfl, h => absurd h (by decide +kernel)
  | 7, _, rfl, h => absurd h (by decide +kernel)
  | 8, _, rfl, _ => d_asks_of X G c
  | 9, _, rfl, h => absurd h (by decide +kernel)
  | 10, _, rfl, h => absurd h (by decide +kernel)
  | 11, _, rfl, h => absurd h (by decide +kernel)
  | 12, _, rfl, h => absurd h (by decide +kernel)
  | 13, _, rfl, h => absurd h (by decide +kernel)
  | 14, _, rfl, h => absurd h (by decide +kernel)
  | 15, _, rfl, h => absurd h (by decide +kernel)
  | 16, _, rfl, h => absurd h (by decide +kernel)
  | 17, _, rfl, h => absurd h (by decide +kernel)
  | 18, _, rfl, h => absurd h (by decide +kernel)
  | 19, _, rfl, h => absurd h (by decide +kernel)
  | 20, _, rfl, h => absurd h (by decide +kernel)
  | 21, _, rfl, h => absurd h (by decide +kernel)
  | 22, _, rfl, h => absurd h (by decide +kernel)
  | 23, _, rfl, h => absurd h (by decide +kernel)
  | 24, _, rfl, h => absurd h (by decide +kernel)
  | 25, _, rfl, h => absurd h (by decide +kernel)
  | 26, _, rfl, h => absurd h (by decide +kernel)
  | 27, _, rfl, h => absurd h (by decide +kernel)
  | 28, _, rfl, h => absurd h (by decide +kernel)
  | 29, _, rfl, h => absurd h (by decide +kernel)
  | 30, _, rfl, h => absurd h (by decide +kernel)
  | 31, _, rfl, h => absurd h (by decide +kernel)
  | 32, _, rfl, h => absurd h (by decide +kernel)
  | 33, _, rfl, h => absurd h (by decide +kernel)
  | 34, _, rfl, h => absurd h (by decide +kernel)
  | 35, _, rfl, h => absurd h (by decide +kernel)
  | 36, _, rfl, h => absurd h (by decide +kernel)
  | 37, _, rfl, h => absurd h (by decide +kernel)
  | 38, _, rfl, h => absurd h (by decide +kernel)
  | 39, _, rfl, h => absurd h (by decide +kernel)
  | 40, _, rfl, h => absurd h (by decide +kernel)
  | 41, _, rfl, h => absurd h (by decide +kernel)
  | 42, _, rfl, h => absurd h (by decide +kernel)
  | 43, _, rfl, h => absurd h (by decide +kernel)
  | 44, _, rfl, h => absurd h (by decide +kernel)
  | 45, _, rfl, h => absurd h (by decide +kernel)
  | 46, _, rfl, h => absurd h (by decide +kernel)
  | 47, _, rfl, h => absurd h (by decide +kernel)
  | 48, _, rfl, h => absurd h (by decide +kernel)
  | 49, _, rfl, h => absurd h (by decide +kernel)
  | 50, _, rfl, h => absurd h (by decide +kernel)
  | n + 51, _, e, _ => by cases e
theorem pr {prog : Program} {w : World} {base : Heap} (X : Kf.In h) (G : h.Ns mainGlobals mg) (c : SaysU fa fn ex Kf) : Pr prog w Kf mg base (Pk Kf) cf T sub where
  xa := rfl
  bi := fun x hx => He.free_ok X G (c.bools.1 _ (free_bi hx))
  xc := fun x k hx => by
    have e := ixOf_get (show ixOf xcN x = some k from hx)
    have q := He.glo_ok X G (c.bools.1 _ (glo_xc e))
    show mg x = some (.ref (He.ga Kf (xcN.getD k Str.empty)))
    rw [getD_of e]; exact q
  rzE := rfl
  made := fun k hk => by
    have hk : k ∈ rz := hk
    unfold rz at hk
    simp only [List.mem_cons, List.not_mem_nil, or_false] at hk
    rcases hk with rfl | rfl
    · exact m_InvalidPaper c
    · exact m_NotUsable c
  subV := fun k hk => (exB c hk).2.1
  sub := fun k hk x j hx => (exB c hk).2.2 j (by
    have e := ixOf_get (show ixOf xcN x = some j from hx)
    exact (List.getElem?_eq_some_iff.mp e).1)
  exc := fun k hk => let z := xcB_ok (exB c hk).1; ⟨z.exc, z.xf, z.no⟩
  fn := fun x f hx => by
    have hx : fnI x = some f := hx
    unfold fnI at hx
    split at hx
    · cases hx
    · rename_i h
      exact fns X G c f x (ixOf_get hx) (Bool.eq_false_iff.mpr h)
  fv := fun x f hx => by
    have hx : fvI x = some f := hx
    unfold fvI at hx
    split at hx
    · rename_i h
      exact fvs X G c f x (ixOf_get hx) h
    · cases hx
end
end K01
open PySem PySem.W PySem.Calls PyProof.Rows
theorem PySem.Challenge.cw_underthree_k01_kinds_quotients_and_clubs_base (D : Nat) (hD : D + 2 ≤ 60) (most : Nat) (hmost : PySem.Challenge.rw_underthree_k01_kinds_quotients_and_clubs.most = some most) (hm2 : most ≤ sizeLine)
    (main : ∀ ns : List Int, ns.length ≤ most → Uq.wC K01.T K01.sub K01.flds D K01.f_law [Uq.lk ns] (fun d => d = .bool true) fun _ _ => False) : PySem.Challenge.rw_underthree_k01_kinds_quotients_and_clubs.Holds := by
  w_on; o_law
  refine HandSHeadRun.head_any (r := OpenLaw.row PySem.Challenge.rw_underthree_k01_kinds_quotients_and_clubs) (q := view (OpenLaw.row PySem.Challenge.rw_underthree_k01_kinds_quotients_and_clubs).prog [61]) (H := K01.hk) (ob := K01.ob) (M := 6000) (loose := K01.loose) (d := HandSHeadRun.topDef (OpenLaw.row PySem.Challenge.rw_underthree_k01_kinds_quotients_and_clubs).prog 61) (kwd := []) K01.ob_eq
    (by kernel_rfl) (fun s => by kernel_rfl) K01.run (by kernel_rfl) (by kernel_rfl) (by kernel_rfl) (by rfl) (by first | assumption | decide +kernel) (by decide +kernel) ⟨rfl, rfl, rfl, rfl, rfl, by decide +kernel⟩ ?hw ?hc
  case hw => w_witness2
  case hc =>
    refine L2.walk_ofE (l := PySem.Challenge.rw_underthree_k01_kinds_quotients_and_clubs) (n := most) (k := D + 2) (x := "_law_script") (CX := L2.CX0) hmost hm2 (by kernel_rfl) (L2.Room.mono (k := 60) ⟨rfl, by decide, by decide⟩ hD) ?F (fun _ _ _ _ z => z)
    intro w mg fa h Y G hmg0
    obtain ⟨Kf, KX, c⟩ := Y
    have hmg : mg ("law" : PySem.Str) = some (.ref fa) := by
      have e : (HandSHeadRun.topDef (OpenLaw.row PySem.Challenge.rw_underthree_k01_kinds_quotients_and_clubs).prog 61).name = ("law" : PySem.Str) := by kernel_rfl
      rw [← e]; exact hmg0
    obtain ⟨a, fd, hat, hb⟩ := K01.d_law1 KX G c
    obtain ⟨_, _, _, _, _, _, g1, _⟩ := id hat.ex
    have ea : a = fa := by rw [hmg] at g1; exact (Value.ref.inj (Option.some.inj g1)).symm
    subst ea
    exact ⟨Kf, fd, Uq.spLaw Kf (K01.Pk Kf) K01.T K01.sub D K01.f_law, KX, fun s u => hb s [u] rfl, fun H b ns hl hO hS => Uq.law_sp (P := K01.Pk Kf) (most := most) main H b ns hl hO hS, fun base hK hG => Uq.law_fn (K01.pr hK hG c) hat rfl rfl D⟩


theorem PySem.Challenge.cw_underthree_k01_kinds_quotients_and_clubs_holds : PySem.Challenge.rw_underthree_k01_kinds_quotients_and_clubs.Holds :=
  PySem.Challenge.cw_underthree_k01_kinds_quotients_and_clubs_base 12 (by decide) 63 rfl (by decide) fun ns hl => K01.P.law_true (n := 0) hl rfl

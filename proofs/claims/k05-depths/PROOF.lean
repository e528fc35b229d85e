import PyProof.Rows.All
import Wide.All
import OpenK.AllK
import Wide.FinOn
import KE.KStateDown
import Lean
import HandS.ForMost
import HandS.Defaults
import HandS.Wide
import HandS.WideBits
import HandS.WideMore
import HandS.Style
import HandS.TryOnly
import HandS.Deep
import HandS.TupAny
import HandS.TupMul
import HandS.SortInts
import HandS.Gcd
import HandS.IsInst
import HandS.Flow
import HandS.Conv
import HandS.Rev
import HandS.RevRange
import HandS.TupSets
import HandS.Head0
import HandS.Head1
import HandS.Head2
import HandS.HeadEnd
import HandS.HeadHook1
import HandS.HeadHook2
import PySem.Challenge.RW_deepdigits_k05_whole_numbers_to_great_de
import KE.IntBitsLaws
set_option Elab.async false
set_option linter.all false
set_option maxRecDepth 100000
set_option maxHeartbeats 0
/-! Mini, part A: a small syntax for the subset of the language that the laws use, and its meaning over plain data (no heap): what must hold so that a piece yields a value (or a block ends) with the wish. -/
namespace Mp
open PySem

abbrev D := PyData
/-- the token that stands for the drawing state -/
def stTok : D := .dict [(.none, .none)]
/-- a slot: without a value, with a shared value, with a list or dict that this frame alone holds -/
inductive Cell where
  | un | sh (d : D) | ow (d : D)
abbrev Ev := List Cell

inductive BOp where | add | sub | mul | fdiv | mod | pow
inductive COp where | eq | ne | lt | le | gt | ge | is | isn | inn | nin
inductive Bi where
  | len | abs | int | sum | max | min | sorted | tuple | list | gcd | isqrt | lenset | sset | dict
inductive M where
  | var (i : Nat) | bor (i : Nat)
  | int (i : Int) | bl (b : Bool) | non | str (s : Str) | glob (x : Str) (i : Int)
  | bin (op : BOp) (a b : M) | neg (a : M)
  | cmp (op : COp) (a b : M) | chain (o1 o2 : COp) (a b c : M) | chain3 (o1 o2 o3 : COp) (a b c d : M)
  | cmpT (op : COp) (a b : M) | chainT (o1 o2 : COp) (a b c : M) | chain3T (o1 o2 o3 : COp) (a b c d : M)
  | andV (a b : M) | orV (a b : M) | notV (a : M)
  | andT (a b : M) | orT (a b : M) | notT (a : M) | iteT (c a b : M) | tru (a : M)
  | ite (c a b : M)
  | tup (as : M) | lst (as : M) | nil | cons (a as : M)
  | ix (a b : M) | slice (a lo hi : M) | rev (a : M) | stepS (a lo st : M)
  | call (g : Nat) (as : M) | bi (b : Bi) (as : M) | isi (a : M) (ty : Nat)
  | index (a b : M) | dget (d k e : M)
  | dempty (tk : Bool) | done1 (k v : M) | dcomp (own : List Nat) (tg it k v : M)
  | lc (own : List Nat) (tg it ifs elt : M) | lc2 (own own1 : List Nat) (tg it ifs tg1 it1 ifs1 elt : M)
  | gen (isAll : Bool) (own : List Nat) (tg it elt : M)
  -- what a loop walks
  | rng1 (a : M) | rng2 (a b : M) | rng3 (a b c : M) | enum (a : M) | zip (a b : M) | revd (a : M) | revR (a : M) | revR2 (a b : M) | seq (a : M)

inductive S where
  | nil | seq (a b : S)
  | set (i : Nat) (e : M) | setO (i : Nat) (e : M) | setLc (own : Bool) (i : Nat) (e : M)
  | asg (t e : M) | par2 (i j : Nat) (oi oj : Bool) (a b : M) | par3 (i j k : Nat) (oi oj ok : Bool) (a b c : M)
  | asgPar (t : M) (e : M)
  | aug (i : Nat) (op : BOp) (e : M) | setIx (i : Nat) (k e : M) | augIx (i : Nat) (op : BOp) (k e : M)
  | app (i : Nat) (e : M) | ext (i : Nat) (e : M) | popD (i : Nat) | popT (t : M) (i : Nat)
  | ite (c : M) (a b : S) | whl (c : M) (b : S) | for_ (t it : M) (b : S)
  | ret (e : M) | retN | never | pass
  | frz (i : Nat) (s : S) | mv (i j : Nat)

/-! ### operators on data -/
def MulOk (i j : Int) : Prop := L2.CMul i j ∨ L2.CMulX i j
def DivOk (j : Int) : Prop := j ≠ 0 ∧ j.natAbs.log2 < 9000
def PowOk (i j : Int) : Prop := 0 ≤ j ∧ j ≤ 1000000 ∧ i.natAbs < 2 ^ 64
def Cm (n : Nat) (d : D) : Prop := d.canLay0 = true ∧ d.depth ≤ n
def isN : D → Bool
  | .none => true
  | _ => false
/-- a number, a truth value, None, a text -/
def flatD : D → Bool
  | .none | .bool _ | .int _ | .str _ => true
  | _ => false

def binW : BOp → D → D → (D → Prop) → Prop
  | .add, .int i, .int j, Q => Q (.int (i + j))
  | .add, .list a, .list b, Q => a.length + b.length ≤ sizeLine ∧ Q (.list (a ++ b))
  | .add, .tuple a, .tuple b, Q => a.length + b.length ≤ sizeLine ∧ Q (.tuple (a ++ b))
  | .sub, .int i, .int j, Q => Q (.int (i - j))
  | .mul, .int i, .int j, Q => MulOk i j ∧ Q (.int (i * j))
  | .mul, .list a, .int k, Q => (-(2 ^ 63) ≤ k ∧ k < 2 ^ 63) ∧ a.length * k.toNat ≤ sizeLine ∧ Q (.list (List.replicate k.toNat a).flatten)
  | .mul, .tuple a, .int k, Q => (a ≠ [] ∧ 2 ≤ k ∧ k ≤ 1000 ∧ a.length ≤ 1000) ∧ Q (.tuple (List.replicate k.toNat a).flatten)
  | .fdiv, .int i, .int j, Q => DivOk j ∧ ((0 < j ∧ Q (.int (i / j))) ∨ (j < 0 ∧ Q (.int (i.fdiv j))))
  | .mod, .int i, .int j, Q => (0 < j ∧ Q (.int (i % j))) ∨ (j < 0 ∧ Q (.int (i.fmod j)))
  | .pow, .int i, .int j, Q => PowOk i j ∧ Q (.int (i ^ j.toNat))
  | _, _, _, _ => False

def cmpW : COp → D → D → (Bool → Prop) → Prop
  | .eq, .int i, .int j, Q => Q (decide (i = j))
  | .ne, .int i, .int j, Q => Q (!decide (i = j))
  | .eq, .bool i, .bool j, Q => Q (decide (i = j))
  | .ne, .bool i, .bool j, Q => Q (!decide (i = j))
  | .eq, x, y, Q => Cm 60 x ∧ Cm 60 y ∧ Q (PyData.eqv x y)
  | .ne, x, y, Q => Cm 60 x ∧ Cm 60 y ∧ Q (!PyData.eqv x y)
  | .lt, .int i, .int j, Q => Q (decide (i < j))
  | .le, .int i, .int j, Q => Q (decide (i ≤ j))
  | .gt, .int i, .int j, Q => Q (decide (j < i))
  | .ge, .int i, .int j, Q => Q (decide (j ≤ i))
  | .is, x, .none, Q => Q (isN x)
  | .isn, x, .none, Q => Q (!isN x)
  | .is, .bool a, .bool b, Q => Q (decide (a = b))
  | .isn, .bool a, .bool b, Q => Q (!decide (a = b))
  | .inn, x, .list ys, Q => Cm 60 x ∧ Cm 60 (.list ys) ∧ Q (ys.any fun z => PyData.eqv z x)
  | .nin, x, .list ys, Q => Cm 60 x ∧ Cm 60 (.list ys) ∧ Q (!ys.any fun z => PyData.eqv z x)
  | .inn, x, .tuple ys, Q => flatD x = true ∧ ys.all flatD = true ∧ Q (ys.any fun z => PyData.eqv z x)
  | .nin, x, .tuple ys, Q => flatD x = true ∧ ys.all flatD = true ∧ Q (!ys.any fun z => PyData.eqv z x)
  | _, _, _, _ => False

def truW : D → (Bool → Prop) → Prop
  | .bool b, Q => Q b
  | .list xs, Q => Q (!xs.isEmpty)
  | _, _ => False

def ixW : D → D → (D → Prop) → Prop
  | .list xs, .int i, Q => ∃ d, L2.atI xs i = some d ∧ Q d
  | .tuple xs, .int i, Q => ∃ d, L2.atI xs i = some d ∧ Q d
  | _, _, _ => False

def cutD (xs : List D) (lo hi : Option Int) : List D := (xs.drop (HT.sIx xs.length 0 lo)).take (HT.sIx xs.length xs.length hi - HT.sIx xs.length 0 lo)
def slW : D → Option Int → Option Int → (D → Prop) → Prop
  | .list xs, l, h, Q => Q (.list (cutD xs l h))
  | .tuple xs, l, h, Q => Q (.tuple (cutD xs l h))
  | _, _, _, _ => False
def revW : D → (D → Prop) → Prop
  | .list xs, Q => Q (.list xs.reverse)
  | _, _ => False

def biW : Bi → List D → (D → Prop) → Prop
  | .len, [.list xs], Q => Q (.int xs.length)
  | .len, [.tuple xs], Q => Q (.int xs.length)
  | .abs, [.int i], Q => Q (.int i.natAbs)
  | .int, [.int i], Q => Q (.int i)
  | .int, [.bool b], Q => Q (.int (if b then 1 else 0))
  | .max, [.int i, .int j], Q => Q (.int (max i j))
  | .min, [.int i, .int j], Q => Q (.int (min i j))
  | .max, [.list xs], Q => ∃ ns : List Int, xs = ns.map .int ∧ ns ≠ [] ∧ ∀ m, m ∈ ns → (∀ y ∈ ns, y ≤ m) → Q (.int m)
  | .min, [.list xs], Q => ∃ ns : List Int, xs = ns.map .int ∧ ns ≠ [] ∧ ∀ m, m ∈ ns → (∀ y ∈ ns, m ≤ y) → Q (.int m)
  | .sum, [.list xs], Q => ∃ ns : List Int, xs = ns.map .int ∧ Q (.int ns.sum)
  | .sorted, [.list xs], Q => ∃ ns : List Int, xs = ns.map .int ∧ ∀ ms : List Int, ms.Perm ns → ms.Pairwise (fun a b => a ≤ b) → Q (.list (ms.map .int))
  | .tuple, [.list xs], Q => Q (.tuple xs)
  | .tuple, [.tuple xs], Q => Q (.tuple xs)
  | .list, [.list xs], Q => Q (.list xs)
  | .list, [.tuple xs], Q => Q (.list xs)
  | .gcd, [.int a, .int b], Q => Q (.int ((Nat.gcd a.natAbs b.natAbs : Nat) : Int))
  | _, _, _ => False

/-- isinstance: 0 list, 1 tuple, 2 str, 3 bool, 4 int -/
def isiD : D → Nat → Bool
  | .list _, 0 => true
  | .tuple _, 1 => true
  | .str _, 2 => true
  | .bool _, 3 => true
  | .bool _, 4 => true
  | .int _, 4 => true
  | _, _ => false
def isDict : D → Bool
  | .dict _ => true
  | _ => false

/-! ### the meaning of expressions -/
abbrev Spc := List D → (D → Prop) → Prop

def wipeC (ρ : Ev) : List Nat → Ev
  | [] => ρ
  | v :: vs => (wipeC ρ vs).set v .un
/-- no slot of these holds a list of the frame's own -/
def noOw (ρ : Ev) (vs : List Nat) : Prop := ∀ v ∈ vs, ∀ d, ρ[v]? ≠ some (.ow d)

/- a target: a name, a tuple of targets -/
mutual
def wG : M → D → Ev → (Ev → Prop) → Prop
  | .var i, d, ρ, Q => Q (ρ.set i (.sh d))
  | .tup ts, .tuple ds, ρ, Q => wGs ts ds ρ Q
  | .tup ts, .list ds, ρ, Q => wGs ts ds ρ Q
  | _, _, _, _ => False
termination_by structural m => m
def wGs : M → List D → Ev → (Ev → Prop) → Prop
  | .nil, [], ρ, Q => Q ρ
  | .cons t ts, d :: ds, ρ, Q => wG t d ρ fun ρ' => wGs ts ds ρ' Q
  | _, _, _, _ => False
termination_by structural m => m
end

def lcL (bind : D → Ev → (Ev → Prop) → Prop) (tst : Ev → (Bool → Prop) → Prop) (elt : Ev → (D → Prop) → Prop) (ρ : Ev) : List D → List D → (List D → Prop) → Prop
  | [], acc, Q => Q acc
  | x :: xs, acc, Q => bind x ρ fun ρ1 => tst ρ1 fun b => if b = true then elt ρ1 fun y => lcL bind tst elt ρ xs (acc ++ [y]) Q else lcL bind tst elt ρ xs acc Q

/-- any (stop = true), all (stop = false) -/
def genL (stop : Bool) (bind : D → Ev → (Ev → Prop) → Prop) (elt : Ev → (D → Prop) → Prop) (ρ : Ev) : List D → (Bool → Prop) → Prop
  | [], Q => Q (!stop)
  | x :: xs, Q => bind x ρ fun ρ1 => elt ρ1 fun y => ∃ b, y = .bool b ∧ if b = stop then Q stop else genL stop bind elt ρ xs Q

def small62 (i : Int) : Prop := -(2 ^ 62) ≤ i ∧ i < 2 ^ 62
def enumL (n : Nat) : List D → List D
  | [] => []
  | x :: xs => .tuple [.int n, x] :: enumL (n + 1) xs
def rngD (lo : Int) (n : Nat) : List D := (List.range n).map fun (k : Nat) => .int (lo + k)
def rngC (lo c : Int) (n : Nat) : List D := (List.range n).map fun (k : Nat) => .int (lo + (k : Int) * c)

variable (Γ : List Spc)
mutual
def wE : M → Ev → (D → Prop) → Prop
  | .var i, ρ, Q => match ρ[i]? with
    | some (.sh d) => Q d
    | _ => False
  | .bor i, ρ, Q => match ρ[i]? with
    | some (.sh d) => Q d
    | some (.ow d) => Q d
    | _ => False
  | .int i, _, Q => Q (.int i)
  | .bl b, _, Q => Q (.bool b)
  | .non, _, Q => Q .none
  | .str s, _, Q => Q (.str s)
  | .glob _ i, _, Q => Q (.int i)
  | .bin op a b, ρ, Q => wE a ρ fun x => wE b ρ fun y => binW op x y Q
  | .neg a, ρ, Q => wE a ρ fun x => ∃ i, x = .int i ∧ Q (.int (-i))
  | .cmp op a b, ρ, Q => wE a ρ fun x => wE b ρ fun y => cmpW op x y fun k => Q (.bool k)
  | .chain o1 o2 a b c, ρ, Q => wE a ρ fun x => wE b ρ fun y => cmpW o1 x y fun k => if k = true then wE c ρ fun z => cmpW o2 y z fun k => Q (.bool k) else Q (.bool false)
  | .andV a b, ρ, Q => wE a ρ fun x => ∃ k, x = .bool k ∧ if k = true then wE b ρ Q else Q (.bool false)
  | .orV a b, ρ, Q => wE a ρ fun x => ∃ k, x = .bool k ∧ if k = true then Q (.bool true) else wE b ρ Q
  | .notV a, ρ, Q => wE a ρ fun x => ∃ k, x = .bool k ∧ Q (.bool (!k))
  | .ite c a b, ρ, Q => wT c ρ fun k => if k = true then wE a ρ Q else wE b ρ Q
  | .tup as, ρ, Q => wA as ρ fun ds => ds.length ≤ sizeLine ∧ Q (.tuple ds)
  | .lst as, ρ, Q => wA as ρ fun ds => ds.length ≤ sizeLine ∧ Q (.list ds)
  | .ix a b, ρ, Q => wE a ρ fun x => wE b ρ fun y => ixW x y Q
  | .slice a lo hi, ρ, Q => wE a ρ fun x => wP lo ρ fun l => wP hi ρ fun h => slW x l h Q
  | .rev a, ρ, Q => wE a ρ fun x => revW x Q
  | .call g as, ρ, Q => match Γ[g]? with
    | some sp => wA as ρ fun ds => ∃ Q', sp ds Q' ∧ ∀ d, Q' d → Q d
    | none => False
  | .bi b as, ρ, Q => wA as ρ fun ds => biW b ds Q
  | .isi a ty, ρ, Q => wE a ρ fun x => isDict x = false ∧ Q (.bool (isiD x ty))
  | .lc own tg it ifs elt, ρ, Q => noOw ρ own ∧ wI it ρ fun items => items.length ≤ sizeLine ∧ lcL (wG tg) (wTs ifs) (wE elt) (wipeC ρ own) items [] fun ds => Q (.list ds)
  | .gen isAll own tg it elt, ρ, Q => noOw ρ own ∧ wI it ρ fun items => genL (!isAll) (wG tg) (wE elt) (wipeC ρ own) items fun k => Q (.bool k)
  | _, _, _ => False
termination_by structural m => m
/-- a part of a slice: an int, or left out -/
def wP : M → Ev → (Option Int → Prop) → Prop
  | .nil, _, Q => Q none
  | .cons a _, ρ, Q => wE a ρ fun x => ∃ i, x = .int i ∧ Q (some i)
  | _, _, _ => False
termination_by structural m => m
def wA : M → Ev → (List D → Prop) → Prop
  | .nil, _, Q => Q []
  | .cons a as, ρ, Q => wE a ρ fun x => wA as ρ fun xs => Q (x :: xs)
  | _, _, _ => False
termination_by structural m => m
def wT : M → Ev → (Bool → Prop) → Prop
  | .cmpT op a b, ρ, Q => wE a ρ fun x => wE b ρ fun y => cmpW op x y Q
  | .chainT o1 o2 a b c, ρ, Q => wE a ρ fun x => wE b ρ fun y => cmpW o1 x y fun k => if k = true then wE c ρ fun z => cmpW o2 y z Q else Q false
  | .andT a b, ρ, Q => wT a ρ fun k => if k = true then wT b ρ Q else Q false
  | .orT a b, ρ, Q => wT a ρ fun k => if k = true then Q true else wT b ρ Q
  | .notT a, ρ, Q => wT a ρ fun k => Q (!k)
  | .tru a, ρ, Q => wE a ρ fun x => truW x Q
  | _, _, _ => False
termination_by structural m => m
def wTs : M → Ev → (Bool → Prop) → Prop
  | .nil, _, Q => Q true
  | .cons c _, ρ, Q => wT c ρ Q
  | _, _, _ => False
termination_by structural m => m
def wI : M → Ev → (List D → Prop) → Prop
  | .rng1 a, ρ, Q => wE a ρ fun x => ∃ j, x = .int j ∧ small62 j ∧ Q (rngD 0 j.toNat)
  | .rng2 a b, ρ, Q => wE a ρ fun x => wE b ρ fun y => ∃ i j, x = .int i ∧ y = .int j ∧ small62 i ∧ small62 j ∧ Q (rngD i (j - i).toNat)
  | .rng3 a b c, ρ, Q => wE a ρ fun x => wE b ρ fun y => wE c ρ fun z => ∃ (i j st : Int) (n : Nat), x = .int i ∧ y = .int j ∧ z = .int st ∧ L2.RgC i j st n ∧ Q (rngC i st n)
  | .enum a, ρ, Q => wE a ρ fun x => ∃ xs, x = .list xs ∧ Q (enumL 0 xs)
  | .zip a b, ρ, Q => wE a ρ fun x => wE b ρ fun y => ∃ xs ys, x = .list xs ∧ y = .list ys ∧ Q (List.zipWith (fun u v => .tuple [u, v]) xs ys)
  | .revd a, ρ, Q => wE a ρ fun x => ∃ xs, (x = .list xs ∨ x = .tuple xs) ∧ Q xs.reverse
  | .seq a, ρ, Q => wE a ρ fun x => ∃ xs, (x = .list xs ∨ x = .tuple xs) ∧ Q xs
  | _, _, _ => False
termination_by structural m => m
end

/-! ### the meaning of statements -/
structure En where
  nx : Ev → Prop
  rt : D → Prop

def forL (bind : D → Ev → (Ev → Prop) → Prop) (body : En → Ev → Prop) (E : En) : List D → Ev → Prop
  | [], ρ => E.nx ρ
  | x :: xs, ρ => bind x ρ fun ρ1 => body { E with nx := forL bind body E xs } ρ1

/-- a slot's own list -/
def owL (ρ : Ev) (i : Nat) (F : List D → Prop) : Prop := match ρ[i]? with
  | some (.ow (.list xs)) => F xs
  | _ => False
def isL : D → Bool
  | .list _ => true
  | .dict _ => true
  | _ => false
def cellOf (o : Bool) (d : D) : Cell := if o = true then .ow d else .sh d
def frzC (ρ : Ev) (i : Nat) : Ev := match ρ[i]? with
  | some (.ow d) => ρ.set i (.sh d)
  | _ => ρ

def wS : S → En → Ev → Prop
  | .nil, E, ρ => E.nx ρ
  | .pass, E, ρ => E.nx ρ
  | .seq a b, E, ρ => wS a { E with nx := wS b E } ρ
  | .set i e, E, ρ => wE Γ e ρ fun d => E.nx (ρ.set i (.sh d))
  | .setO i e, E, ρ => wE Γ e ρ fun d => isL d = true ∧ E.nx (ρ.set i (.ow d))
  | .setLc o i e, E, ρ => wE Γ e ρ fun d => (o = true → isL d = true) ∧ E.nx (ρ.set i (cellOf o d))
  | .asg t e, E, ρ => wE Γ e ρ fun d => wG t d ρ E.nx
  | .par2 i j oi oj a b, E, ρ => wE Γ a ρ fun x => (oi = true → isL x = true) ∧ wE Γ b ρ fun y => (oj = true → isL y = true) ∧ E.nx ((ρ.set i (cellOf oi x)).set j (cellOf oj y))
  | .par3 i j k oi oj ok a b c, E, ρ => wE Γ a ρ fun x => (oi = true → isL x = true) ∧ wE Γ b ρ fun y => (oj = true → isL y = true) ∧ wE Γ c ρ fun z => (ok = true → isL z = true) ∧ E.nx (((ρ.set i (cellOf oi x)).set j (cellOf oj y)).set k (cellOf ok z))
  | .aug i op e, E, ρ => match ρ[i]? with
    | some (.sh d) => wE Γ e ρ fun y => ∃ a b, d = .int a ∧ y = .int b ∧ binW op d y fun z => E.nx (ρ.set i (.sh z))
    | _ => False
  | .setIx i k e, E, ρ => owL ρ i fun xs => wE Γ e ρ fun y => wE Γ k ρ fun x => ∃ n j, x = .int n ∧ L2.ixN xs.length n = some j ∧ E.nx (ρ.set i (.ow (.list (xs.set j y))))
  | .augIx i op k e, E, ρ => owL ρ i fun xs => wE Γ k ρ fun x => ∃ (n : Nat) (a : Int), x = .int n ∧ xs[n]? = some (.int a) ∧ wE Γ e ρ fun y => ∃ b, y = .int b ∧ binW op (.int a) (.int b) fun z => E.nx (ρ.set i (.ow (.list (xs.set n z))))
  | .app i e, E, ρ => owL ρ i fun xs => wE Γ e ρ fun y => xs.length < sizeLine ∧ E.nx (ρ.set i (.ow (.list (xs ++ [y]))))
  | .ext i e, E, ρ => owL ρ i fun xs => wE Γ e ρ fun y => ∃ ys, y = .list ys ∧ xs.length + ys.length ≤ sizeLine ∧ E.nx (ρ.set i (.ow (.list (xs ++ ys))))
  | .popD i, E, ρ => owL ρ i fun xs => xs ≠ [] ∧ E.nx (ρ.set i (.ow (.list xs.dropLast)))
  | .popT t i, E, ρ => owL ρ i fun xs => ∃ d, xs.getLast? = some d ∧ wG t d (ρ.set i (.ow (.list xs.dropLast))) E.nx
  | .ite c a b, E, ρ => wT Γ c ρ fun k => if k = true then wS a E ρ else wS b E ρ
  | .whl c b, E, ρ => ∃ I : Nat → Ev → Prop, (∃ m, I m ρ) ∧ ∀ m ρ, I m ρ → wT Γ c ρ fun k => if k = true then wS b { E with nx := fun ρ' => ∃ m', m' < m ∧ I m' ρ' } ρ else E.nx ρ
  | .for_ t it b, E, ρ => wI Γ it ρ fun items => forL (wG t) (wS b) E items ρ
  | .ret e, E, ρ => wE Γ e ρ E.rt
  | .retN, E, _ => E.rt .none
  | .never, _, _ => False
  | .frz i s, E, ρ => wS s E (frzC ρ i)
  | .mv i j, E, ρ => match ρ[j]? with
    | some (.ow d) => i ≠ j ∧ E.nx ((ρ.set j .un).set i (.ow d))
    | _ => False
  | _, _, _ => False
end Mp

/-! Mini, part B: the wishes may be weakened. -/
namespace Mp
open PySem

theorem binW_mono {op : BOp} {x y : D} {Q Q' : D → Prop} (h : binW op x y Q) (hq : ∀ d, Q d → Q' d) : binW op x y Q' := by
  cases op <;> cases x <;> cases y <;> first
    | exact h.elim
    | exact hq _ h
    | exact ⟨h.1, hq _ h.2⟩
    | exact ⟨h.1, h.2.1, hq _ h.2.2⟩
    | exact ⟨h.1, h.2.imp (fun z => ⟨z.1, hq _ z.2⟩) fun z => ⟨z.1, hq _ z.2⟩⟩
    | exact Or.imp (fun z => ⟨z.1, hq _ z.2⟩) (fun z => ⟨z.1, hq _ z.2⟩) h
theorem cmpW_mono {op : COp} {x y : D} {Q Q' : Bool → Prop} (h : cmpW op x y Q) (hq : ∀ b, Q b → Q' b) : cmpW op x y Q' := by
  cases op <;> cases x <;> cases y <;> first
    | exact h.elim
    | exact hq _ h
    | exact ⟨h.1, h.2.1, hq _ h.2.2⟩
theorem truW_mono {x : D} {Q Q' : Bool → Prop} (h : truW x Q) (hq : ∀ b, Q b → Q' b) : truW x Q' := by
  cases x <;> first
    | exact h.elim
    | exact hq _ h
theorem ixW_mono {x y : D} {Q Q' : D → Prop} (h : ixW x y Q) (hq : ∀ b, Q b → Q' b) : ixW x y Q' := by
  cases x <;> cases y <;> first
    | exact h.elim
    | exact Exists.imp (fun d z => ⟨z.1, hq _ z.2⟩) h
theorem slW_mono {x : D} {l u : Option Int} {Q Q' : D → Prop} (h : slW x l u Q) (hq : ∀ b, Q b → Q' b) : slW x l u Q' := by
  cases x <;> first
    | exact h.elim
    | exact hq _ h
theorem revW_mono {x : D} {Q Q' : D → Prop} (h : revW x Q) (hq : ∀ b, Q b → Q' b) : revW x Q' := by
  cases x <;> first
    | exact h.elim
    | exact hq _ h
theorem biW_mono {b : Bi} {ds : List D} {Q Q' : D → Prop} (h : biW b ds Q) (hq : ∀ b, Q b → Q' b) : biW b ds Q' := by
  rcases ds with _ | ⟨x, _ | ⟨y, _ | ⟨z, ds⟩⟩⟩
  · cases b <;> exact h.elim
  · cases b <;> cases x <;> first
      | exact h.elim
      | exact hq _ h
      | (obtain ⟨ns, h1, h2, h3⟩ := h; exact ⟨ns, h1, h2, fun m a b => hq _ (h3 m a b)⟩)
      | (obtain ⟨ns, h1, h2⟩ := h; exact ⟨ns, h1, hq _ h2⟩)
      | (obtain ⟨ns, h1, h2⟩ := h; exact ⟨ns, h1, fun m a b => hq _ (h2 m a b)⟩)
  · cases b <;> cases x <;> cases y <;> first
      | exact h.elim
      | exact hq _ h
  · cases b <;> cases x <;> cases y <;> exact h.elim
theorem wG_mono' (t : M) : (∀ {d : D} {ρ : Ev} {Q Q' : Ev → Prop}, wG t d ρ Q → (∀ ρ, Q ρ → Q' ρ) → wG t d ρ Q') ∧ (∀ {ds : List D} {ρ : Ev} {Q Q' : Ev → Prop}, wGs t ds ρ Q → (∀ ρ, Q ρ → Q' ρ) → wGs t ds ρ Q') := by
  induction t with
  | var i => exact ⟨fun h hq => by simp only [wG] at *; exact hq _ h, fun h _ => by simp only [wGs] at h⟩
  | tup ts ih => exact ⟨fun {d} _ _ _ h hq => by cases d <;> simp only [wG] at * <;> exact ih.2 h hq, fun h _ => by simp only [wGs] at h⟩
  | nil => exact ⟨fun h _ => by simp only [wG] at h, fun {ds} _ _ _ h hq => by cases ds <;> simp only [wGs] at *; exact hq _ h⟩
  | cons t ts ih1 ih2 => exact ⟨fun h _ => by simp only [wG] at h, fun {ds} _ _ _ h hq => by cases ds <;> simp only [wGs] at *; exact ih1.1 h fun ρ z => ih2.2 z hq⟩
  | _ => exact ⟨fun h _ => by simp only [wG] at h, fun h _ => by simp only [wGs] at h⟩
theorem wG_mono {t : M} {d : D} {ρ : Ev} {Q Q' : Ev → Prop} (h : wG t d ρ Q) (hq : ∀ ρ, Q ρ → Q' ρ) : wG t d ρ Q' := (wG_mono' t).1 h hq

theorem lcL_mono {bind : D → Ev → (Ev → Prop) → Prop} {tst : Ev → (Bool → Prop) → Prop} {elt : Ev → (D → Prop) → Prop} {ρ : Ev} (mb : ∀ d ρ Q Q', bind d ρ Q → (∀ ρ, Q ρ → Q' ρ) → bind d ρ Q') (mt : ∀ ρ Q Q', tst ρ Q → (∀ b, Q b → Q' b) → tst ρ Q')
    (me : ∀ ρ Q Q', elt ρ Q → (∀ b, Q b → Q' b) → elt ρ Q') : ∀ {xs acc : List D} {Q Q' : List D → Prop}, lcL bind tst elt ρ xs acc Q → (∀ ds, Q ds → Q' ds) → lcL bind tst elt ρ xs acc Q'
  | [], _, _, _, h, hq => hq _ h
  | x :: xs, acc, Q, Q', h, hq => by
    unfold lcL at *
    refine mb _ _ _ _ h fun ρ1 h => mt _ _ _ h fun b h => ?_
    split
    · rw [if_pos (by assumption)] at h
      exact me _ _ _ h fun y h => lcL_mono mb mt me h hq
    · rw [if_neg (by assumption)] at h
      exact lcL_mono mb mt me h hq
theorem genL_mono {stop : Bool} {bind : D → Ev → (Ev → Prop) → Prop} {elt : Ev → (D → Prop) → Prop} {ρ : Ev} (mb : ∀ d ρ Q Q', bind d ρ Q → (∀ ρ, Q ρ → Q' ρ) → bind d ρ Q')
    (me : ∀ ρ Q Q', elt ρ Q → (∀ b, Q b → Q' b) → elt ρ Q') : ∀ {xs : List D} {Q Q' : Bool → Prop}, genL stop bind elt ρ xs Q → (∀ ds, Q ds → Q' ds) → genL stop bind elt ρ xs Q'
  | [], _, _, h, hq => hq _ h
  | x :: xs, Q, Q', h, hq => by
    unfold genL at *
    refine mb _ _ _ _ h fun ρ1 h => me _ _ _ h fun y ⟨b, e, h⟩ => ⟨b, e, ?_⟩
    split
    · rw [if_pos (by assumption)] at h
      exact hq _ h
    · rw [if_neg (by assumption)] at h
      exact genL_mono mb me h hq

theorem ite_mono {b : Bool} {P P' R R' : Prop} (h : if b = true then P else R) (hp : P → P') (hr : R → R') : if b = true then P' else R' := by
  split
  · rw [if_pos (by assumption)] at h; exact hp h
  · rw [if_neg (by assumption)] at h; exact hr h
variable {Γ : List Spc}
structure Mono (Γ : List Spc) (m : M) : Prop where
  e : ∀ {ρ : Ev} {Q Q' : D → Prop}, wE Γ m ρ Q → (∀ d, Q d → Q' d) → wE Γ m ρ Q'
  p : ∀ {ρ : Ev} {Q Q' : Option Int → Prop}, wP Γ m ρ Q → (∀ d, Q d → Q' d) → wP Γ m ρ Q'
  a : ∀ {ρ : Ev} {Q Q' : List D → Prop}, wA Γ m ρ Q → (∀ d, Q d → Q' d) → wA Γ m ρ Q'
  t : ∀ {ρ : Ev} {Q Q' : Bool → Prop}, wT Γ m ρ Q → (∀ d, Q d → Q' d) → wT Γ m ρ Q'
  ts : ∀ {ρ : Ev} {Q Q' : Bool → Prop}, wTs Γ m ρ Q → (∀ d, Q d → Q' d) → wTs Γ m ρ Q'
  i : ∀ {ρ : Ev} {Q Q' : List D → Prop}, wI Γ m ρ Q → (∀ d, Q d → Q' d) → wI Γ m ρ Q'
theorem mono (m : M) : Mono Γ m := by
  induction m with
  | var i =>
    constructor <;> intro ρ Q Q' h hq <;> simp only [wE, wP, wA, wT, wTs, wI] at h ⊢
    split at h
    · exact hq _ h
    · exact h.elim
  | bor i =>
    constructor <;> intro ρ Q Q' h hq <;> simp only [wE, wP, wA, wT, wTs, wI] at h ⊢
    split at h
    · exact hq _ h
    · exact hq _ h
    · exact h.elim
  | int i => constructor <;> intro ρ Q Q' h hq <;> simp only [wE, wP, wA, wT, wTs, wI] at h ⊢; exact hq _ h
  | bl i => constructor <;> intro ρ Q Q' h hq <;> simp only [wE, wP, wA, wT, wTs, wI] at h ⊢; exact hq _ h
  | non => constructor <;> intro ρ Q Q' h hq <;> simp only [wE, wP, wA, wT, wTs, wI] at h ⊢; exact hq _ h
  | str i => constructor <;> intro ρ Q Q' h hq <;> simp only [wE, wP, wA, wT, wTs, wI] at h ⊢; exact hq _ h
  | glob i => constructor <;> intro ρ Q Q' h hq <;> simp only [wE, wP, wA, wT, wTs, wI] at h ⊢; exact hq _ h
  | bin op a b iha ihb => constructor <;> intro ρ Q Q' h hq <;> simp only [wE, wP, wA, wT, wTs, wI] at h ⊢; exact iha.e h fun x h => ihb.e h fun y h => binW_mono h hq
  | neg a iha => constructor <;> intro ρ Q Q' h hq <;> simp only [wE, wP, wA, wT, wTs, wI] at h ⊢; exact iha.e h fun x ⟨i, e, h⟩ => ⟨i, e, hq _ h⟩
  | cmp op a b iha ihb => constructor <;> intro ρ Q Q' h hq <;> simp only [wE, wP, wA, wT, wTs, wI] at h ⊢; exact iha.e h fun x h => ihb.e h fun y h => cmpW_mono h fun _ => hq _
  | chain o1 o2 a b c iha ihb ihc =>
    constructor <;> intro ρ Q Q' h hq <;> simp only [wE, wP, wA, wT, wTs, wI] at h ⊢
    exact iha.e h fun x h => ihb.e h fun y h => cmpW_mono h fun k h => ite_mono h (fun h => ihc.e h fun z h => cmpW_mono h fun _ => hq _) (hq _)
  | andV a b iha ihb => constructor <;> intro ρ Q Q' h hq <;> simp only [wE, wP, wA, wT, wTs, wI] at h ⊢; exact iha.e h fun x ⟨k, e, h⟩ => ⟨k, e, ite_mono h (fun h => ihb.e h hq) (hq _)⟩
  | orV a b iha ihb => constructor <;> intro ρ Q Q' h hq <;> simp only [wE, wP, wA, wT, wTs, wI] at h ⊢; exact iha.e h fun x ⟨k, e, h⟩ => ⟨k, e, ite_mono h (hq _) (fun h => ihb.e h hq)⟩
  | notV a iha => constructor <;> intro ρ Q Q' h hq <;> simp only [wE, wP, wA, wT, wTs, wI] at h ⊢; exact iha.e h fun x ⟨k, e, h⟩ => ⟨k, e, hq _ h⟩
  | ite c a b ihc iha ihb => constructor <;> intro ρ Q Q' h hq <;> simp only [wE, wP, wA, wT, wTs, wI] at h ⊢; exact ihc.t h fun k h => ite_mono h (fun h => iha.e h hq) (fun h => ihb.e h hq)
  | tup as ih => constructor <;> intro ρ Q Q' h hq <;> simp only [wE, wP, wA, wT, wTs, wI] at h ⊢; exact ih.a h fun ds h => ⟨h.1, hq _ h.2⟩
  | lst as ih => constructor <;> intro ρ Q Q' h hq <;> simp only [wE, wP, wA, wT, wTs, wI] at h ⊢; exact ih.a h fun ds h => ⟨h.1, hq _ h.2⟩
  | nil =>
    constructor <;> intro ρ Q Q' h hq <;> simp only [wE, wP, wA, wT, wTs, wI] at h ⊢
    · exact hq _ h
    · exact hq _ h
    · exact hq _ h
  | cons a as iha ihb =>
    constructor <;> intro ρ Q Q' h hq <;> simp only [wE, wP, wA, wT, wTs, wI] at h ⊢
    · exact iha.e h fun x ⟨i, e, h⟩ => ⟨i, e, hq _ h⟩
    · exact iha.e h fun x h => ihb.a h fun xs h => hq _ h
    · exact iha.t h hq
  | ix a b iha ihb => constructor <;> intro ρ Q Q' h hq <;> simp only [wE, wP, wA, wT, wTs, wI] at h ⊢; exact iha.e h fun x h => ihb.e h fun y h => ixW_mono h hq
  | slice a l u iha ihl ihu => constructor <;> intro ρ Q Q' h hq <;> simp only [wE, wP, wA, wT, wTs, wI] at h ⊢; exact iha.e h fun x h => ihl.p h fun y h => ihu.p h fun z h => slW_mono h hq
  | rev a iha => constructor <;> intro ρ Q Q' h hq <;> simp only [wE, wP, wA, wT, wTs, wI] at h ⊢; exact iha.e h fun x h => revW_mono h hq
  | call g as ih =>
    constructor <;> intro ρ Q Q' h hq <;> simp only [wE, wP, wA, wT, wTs, wI] at h ⊢
    split at h
    · exact ih.a h fun ds ⟨Q1, h, w⟩ => ⟨Q1, h, fun d z => hq _ (w d z)⟩
    · exact h.elim
  | bi b as ih => constructor <;> intro ρ Q Q' h hq <;> simp only [wE, wP, wA, wT, wTs, wI] at h ⊢; exact ih.a h fun ds h => biW_mono h hq
  | isi a ty ih => constructor <;> intro ρ Q Q' h hq <;> simp only [wE, wP, wA, wT, wTs, wI] at h ⊢; exact ih.e h fun ds h => ⟨h.1, hq _ h.2⟩
  | lc own tg it ifs elt _ ihi ihf ihe =>
    constructor <;> intro ρ Q Q' h hq <;> simp only [wE, wP, wA, wT, wTs, wI] at h ⊢
    exact ⟨h.1, ihi.i h.2 fun items h => ⟨h.1, lcL_mono (bind := wG tg) (tst := wTs Γ ifs) (elt := wE Γ elt) (fun d ρ Q Q' => wG_mono) (fun ρ Q Q' => ihf.ts) (fun ρ Q Q' => ihe.e) h.2 fun ds => hq _⟩⟩
  | gen isAll own tg it elt _ ihi ihe =>
    constructor <;> intro ρ Q Q' h hq <;> simp only [wE, wP, wA, wT, wTs, wI] at h ⊢
    exact ⟨h.1, ihi.i h.2 fun items h => genL_mono (bind := wG tg) (elt := wE Γ elt) (fun d ρ Q Q' => wG_mono) (fun ρ Q Q' => ihe.e) h fun ds => hq _⟩
  | cmpT op a b iha ihb => constructor <;> intro ρ Q Q' h hq <;> simp only [wE, wP, wA, wT, wTs, wI] at h ⊢; exact iha.e h fun x h => ihb.e h fun y h => cmpW_mono h hq
  | chainT o1 o2 a b c iha ihb ihc =>
    constructor <;> intro ρ Q Q' h hq <;> simp only [wE, wP, wA, wT, wTs, wI] at h ⊢
    exact iha.e h fun x h => ihb.e h fun y h => cmpW_mono h fun k h => ite_mono h (fun h => ihc.e h fun z h => cmpW_mono h hq) (hq _)
  | andT a b iha ihb => constructor <;> intro ρ Q Q' h hq <;> simp only [wE, wP, wA, wT, wTs, wI] at h ⊢; exact iha.t h fun k h => ite_mono h (fun h => ihb.t h hq) (hq _)
  | orT a b iha ihb => constructor <;> intro ρ Q Q' h hq <;> simp only [wE, wP, wA, wT, wTs, wI] at h ⊢; exact iha.t h fun k h => ite_mono h (hq _) (fun h => ihb.t h hq)
  | notT a iha => constructor <;> intro ρ Q Q' h hq <;> simp only [wE, wP, wA, wT, wTs, wI] at h ⊢; exact iha.t h fun k h => hq _ h
  | tru a iha => constructor <;> intro ρ Q Q' h hq <;> simp only [wE, wP, wA, wT, wTs, wI] at h ⊢; exact iha.e h fun x h => truW_mono h hq
  | rng1 a iha => constructor <;> intro ρ Q Q' h hq <;> simp only [wE, wP, wA, wT, wTs, wI] at h ⊢; exact iha.e h fun x ⟨j, e, s, h⟩ => ⟨j, e, s, hq _ h⟩
  | rng2 a b iha ihb => constructor <;> intro ρ Q Q' h hq <;> simp only [wE, wP, wA, wT, wTs, wI] at h ⊢; exact iha.e h fun x h => ihb.e h fun y ⟨i, j, e, e2, s, s2, h⟩ => ⟨i, j, e, e2, s, s2, hq _ h⟩
  | rng3 a b c iha ihb ihc => constructor <;> intro ρ Q Q' h hq <;> simp only [wE, wP, wA, wT, wTs, wI] at h ⊢; exact iha.e h fun x h => ihb.e h fun y h => ihc.e h fun z ⟨i, j, st, n, e, e2, e3, s, h⟩ => ⟨i, j, st, n, e, e2, e3, s, hq _ h⟩
  | enum a iha => constructor <;> intro ρ Q Q' h hq <;> simp only [wE, wP, wA, wT, wTs, wI] at h ⊢; exact iha.e h fun x ⟨xs, e, h⟩ => ⟨xs, e, hq _ h⟩
  | zip a b iha ihb => constructor <;> intro ρ Q Q' h hq <;> simp only [wE, wP, wA, wT, wTs, wI] at h ⊢; exact iha.e h fun x h => ihb.e h fun y ⟨xs, ys, e, e2, h⟩ => ⟨xs, ys, e, e2, hq _ h⟩
  | revd a iha => constructor <;> intro ρ Q Q' h hq <;> simp only [wE, wP, wA, wT, wTs, wI] at h ⊢; exact iha.e h fun x ⟨xs, e, h⟩ => ⟨xs, e, hq _ h⟩
  | seq a iha => constructor <;> intro ρ Q Q' h hq <;> simp only [wE, wP, wA, wT, wTs, wI] at h ⊢; exact iha.e h fun x ⟨xs, e, h⟩ => ⟨xs, e, hq _ h⟩
  | _ => constructor <;> intro ρ Q Q' h hq <;> simp only [wE, wP, wA, wT, wTs, wI] at h
theorem wE_mono {m : M} {ρ : Ev} {Q Q' : D → Prop} (h : wE Γ m ρ Q) (hq : ∀ d, Q d → Q' d) : wE Γ m ρ Q' := (mono m).e h hq
theorem wP_mono {m : M} {ρ : Ev} {Q Q' : Option Int → Prop} (h : wP Γ m ρ Q) (hq : ∀ d, Q d → Q' d) : wP Γ m ρ Q' := (mono m).p h hq
theorem wA_mono {m : M} {ρ : Ev} {Q Q' : List D → Prop} (h : wA Γ m ρ Q) (hq : ∀ d, Q d → Q' d) : wA Γ m ρ Q' := (mono m).a h hq
theorem wT_mono {m : M} {ρ : Ev} {Q Q' : Bool → Prop} (h : wT Γ m ρ Q) (hq : ∀ d, Q d → Q' d) : wT Γ m ρ Q' := (mono m).t h hq
theorem wI_mono {m : M} {ρ : Ev} {Q Q' : List D → Prop} (h : wI Γ m ρ Q) (hq : ∀ d, Q d → Q' d) : wI Γ m ρ Q' := (mono m).i h hq
end Mp

/-! Mini, part C: how data lie in HandS's abstract heap; slots; the judgements. -/
namespace Mp
open PySem PySem.Spec PyProof.Rows L2

def keyD : Key → D
  | .inl i => .int i
  | .inr s => .str s
/-- the written part, the drawing state's list and its cells' list -/
structure MC where
  K : PySem.W.Frag
  sA : Addr
  cA : Addr
mutual
inductive Rp (C : MC) (H : Hp) : V → D → Prop
  | non : Rp C H .non .none
  | bl (b : Bool) : Rp C H (.bl b) (.bool b)
  | int (i : Int) : Rp C H (.int i) (.int i)
  | str (x : Str) : Rp C H (.str x) (.str x)
  | lst {a : Addr} {xs : List V} {ds : List D} : H a = some (.lst xs) → RpA C H xs ds → Rp C H (.ref a) (.list ds)
  | tup {a : Addr} {xs : List V} {ds : List D} : SqT C.K H a xs → RpA C H xs ds → Rp C H (.ref a) (.tuple ds)
  | dk {a : Addr} {kvs : List (Key × V)} {ps : List (D × D)} : H a = some (.dK kvs) → ps.map (·.1) = kvs.map (fun q => keyD q.1) → RpA C H (kvs.map (·.2)) (ps.map (·.2)) → Rp C H (.ref a) (.dict ps)
  | dt {a : Addr} {kvs : List (List Key × V)} {ps : List (D × D)} : H a = some (.dT kvs) → ps.map (·.1) = kvs.map (fun q => .tuple (q.1.map keyD)) → RpA C H (kvs.map (·.2)) (ps.map (·.2)) → Rp C H (.ref a) (.dict ps)
  | st : Rp C H (.ref C.sA) stTok
inductive RpA (C : MC) (H : Hp) : List V → List D → Prop
  | nil : RpA C H [] []
  | cons {v : V} {vs : List V} {d : D} {ds : List D} : Rp C H v d → RpA C H vs ds → RpA C H (v :: vs) (d :: ds)
end
/-- what stands in one heap stands in the other -/
def Sub (H H' : Hp) : Prop := ∀ a o, H a = some o → H' a = some o
theorem Sub.refl {H : Hp} : Sub H H := fun _ _ h => h
theorem Sub.trans {H H1 H2 : Hp} (h : Sub H H1) (h1 : Sub H1 H2) : Sub H H2 := fun a o e => h1 a o (h a o e)
theorem Sub.sqT {K : PySem.W.Frag} {H H' : Hp} (s : Sub H H') {a : Addr} {xs : List V} (h : SqT K H a xs) : SqT K H' a xs := by
  rcases h with (h | ⟨o, h⟩) | h
  · exact .inl (.inl (s _ _ h))
  · exact .inl (.inr ⟨o, s _ _ h⟩)
  · exact .inr h
theorem Sub.sqL {K : PySem.W.Frag} {H H' : Hp} (s : Sub H H') {a : Addr} {xs : List V} (h : SqL K H a xs) : SqL K H' a xs := by
  rcases h with (h | ⟨o, h⟩) | h
  · exact .inl (.inl (s _ _ h))
  · exact .inl (.inr ⟨o, s _ _ h⟩)
  · exact .inr h
section
variable {C : MC} {H H' : Hp}
mutual
theorem Rp.mono (s : Sub H H') : ∀ {v : V} {d : D}, Rp C H v d → Rp C H' v d
  | _, _, .non => .non
  | _, _, .bl b => .bl b
  | _, _, .int i => .int i
  | _, _, .str x => .str x
  | _, _, .lst h r => .lst (s _ _ h) (RpA.mono s r)
  | _, _, .tup h r => .tup (s.sqT h) (RpA.mono s r)
  | _, _, .dk h e r => .dk (s _ _ h) e (RpA.mono s r)
  | _, _, .dt h e r => .dt (s _ _ h) e (RpA.mono s r)
  | _, _, .st => .st
theorem RpA.mono (s : Sub H H') : ∀ {vs : List V} {ds : List D}, RpA C H vs ds → RpA C H' vs ds
  | _, _, .nil => .nil
  | _, _, .cons h r => .cons (Rp.mono s h) (RpA.mono s r)
end
theorem RpA.length : ∀ {vs : List V} {ds : List D}, RpA C H vs ds → vs.length = ds.length
  | _, _, .nil => rfl
  | _, _, .cons _ r => by simp [RpA.length r]
theorem RpA.get : ∀ {vs : List V} {ds : List D} {i : Nat} {d : D}, RpA C H vs ds → ds[i]? = some d → ∃ v, vs[i]? = some v ∧ Rp C H v d
  | _, _, _, _, .nil, e => by simp at e
  | _, _, 0, _, .cons h _, e => by simp at e; subst e; exact ⟨_, rfl, h⟩
  | _, _, i + 1, _, .cons _ r, e => by
    obtain ⟨v, h1, h2⟩ := RpA.get (i := i) r (by simpa using e)
    exact ⟨v, by simpa using h1, h2⟩
theorem RpA.getV : ∀ {vs : List V} {ds : List D} {i : Nat} {v : V}, RpA C H vs ds → vs[i]? = some v → ∃ d, ds[i]? = some d ∧ Rp C H v d
  | _, _, _, _, .nil, e => by simp at e
  | _, _, 0, _, .cons h _, e => by simp at e; subst e; exact ⟨_, rfl, h⟩
  | _, _, i + 1, _, .cons _ r, e => by
    obtain ⟨v, h1, h2⟩ := RpA.getV (i := i) r (by simpa using e)
    exact ⟨v, by simpa using h1, h2⟩
theorem RpA.append : ∀ {vs ws : List V} {ds es : List D}, RpA C H vs ds → RpA C H ws es → RpA C H (vs ++ ws) (ds ++ es)
  | _, _, _, _, .nil, h => h
  | _, _, _, _, .cons h r, q => .cons h (RpA.append r q)
theorem RpA.take : ∀ {vs : List V} {ds : List D} (n : Nat), RpA C H vs ds → RpA C H (vs.take n) (ds.take n)
  | _, _, 0, _ => .nil
  | _, _, _ + 1, .nil => .nil
  | _, _, n + 1, .cons h r => .cons h (RpA.take n r)
theorem RpA.drop : ∀ {vs : List V} {ds : List D} (n : Nat), RpA C H vs ds → RpA C H (vs.drop n) (ds.drop n)
  | _, _, 0, h => h
  | _, _, _ + 1, .nil => .nil
  | _, _, n + 1, .cons _ r => RpA.drop n r
theorem RpA.set : ∀ {vs : List V} {ds : List D} (n : Nat) {v : V} {d : D}, RpA C H vs ds → Rp C H v d → RpA C H (vs.set n v) (ds.set n d)
  | _, _, _, _, _, .nil, _ => .nil
  | _, _, 0, _, _, .cons _ r, q => .cons q r
  | _, _, n + 1, _, _, .cons h r, q => .cons h (RpA.set n r q)
theorem RpA.reverse {vs : List V} {ds : List D} (h : RpA C H vs ds) : RpA C H vs.reverse ds.reverse := by
  induction h using RpA.rec (motive_1 := fun _ _ _ => True) with
  | nil => exact .nil
  | cons h r _ ih => simp only [List.reverse_cons]; exact ih.append (.cons h .nil)
  | _ => trivial
theorem RpA.dropLast {vs : List V} {ds : List D} (h : RpA C H vs ds) : RpA C H vs.dropLast ds.dropLast := by
  rw [List.dropLast_eq_take, List.dropLast_eq_take, h.length]
  exact h.take _
theorem RpA.rep {vs : List V} {ds : List D} (h : RpA C H vs ds) : ∀ n : Nat, RpA C H (List.replicate n vs).flatten (List.replicate n ds).flatten
  | 0 => by simpa using RpA.nil
  | n + 1 => by
    simp only [List.replicate_succ, List.flatten_cons]
    exact h.append (h.rep n)
theorem RpA.one {v : V} {ds : List D} (h : RpA C H [v] ds) : ∃ d, ds = [d] ∧ Rp C H v d := by
  cases h with
  | cons h r => cases r; exact ⟨_, rfl, h⟩
theorem RpA.one' {vs : List V} {d : D} (h : RpA C H vs [d]) : ∃ v, vs = [v] ∧ Rp C H v d := by
  cases h with
  | cons h r => cases r; exact ⟨_, rfl, h⟩
theorem RpA.two' {vs : List V} {d e : D} (h : RpA C H vs [d, e]) : ∃ v u, vs = [v, u] ∧ Rp C H v d ∧ Rp C H u e := by
  cases h with
  | cons h r =>
    obtain ⟨u, rfl, q⟩ := r.one'
    exact ⟨_, _, rfl, h, q⟩
theorem RpA.ints : ∀ {ns : List Int} {vs : List V}, RpA C H vs (ns.map .int) → vs = ns.map V.int
  | [], _, .nil => rfl
  | n :: ns, _, h => by
    cases h with
    | cons h r => cases h; rw [RpA.ints r]; rfl
theorem RpA.ofInts : ∀ ns : List Int, RpA C H (ns.map V.int) (ns.map .int)
  | [] => .nil
  | n :: ns => .cons (.int n) (RpA.ofInts ns)
end

/-! ### a heap without some addresses -/
open Classical in
noncomputable def mask (H : Hp) (M : Addr → Prop) : Hp := fun a => if M a then none else H a
theorem mask_some {H : Hp} {M : Addr → Prop} {a : Addr} {o : HO} : mask H M a = some o ↔ ¬ M a ∧ H a = some o := by
  unfold mask
  by_cases h : M a
  · simp [h]
  · simp [h]
theorem mask_sub {H : Hp} {M : Addr → Prop} : Sub (mask H M) H := fun _ _ h => (mask_some.mp h).2
theorem mask_mono {H H' : Hp} {M M' : Addr → Prop} (h : ∀ a o, ¬ M a → H a = some o → ¬ M' a ∧ H' a = some o) : Sub (mask H M) (mask H' M') := fun a o e => by
  obtain ⟨h1, h2⟩ := mask_some.mp e
  exact mask_some.mpr (h a o h1 h2)
/-- the drawing state stands -/
def StOk (C : MC) (H : Hp) : Prop := ∃ (cs : List Int) (seed : Int), C.sA ≠ C.cA ∧ H C.sA = some (.lst [.ref C.cA, .int seed]) ∧ H C.cA = some (.lst (cs.map V.int)) ∧ cs.length ≤ 63
/-- all but the drawing state stands as before -/
def Ext (C : MC) (H H' : Hp) : Prop := ∀ a o, a ≠ C.sA → a ≠ C.cA → H a = some o → H' a = some o
theorem Ext.refl {C : MC} {H : Hp} : Ext C H H := fun _ _ _ _ h => h
theorem Ext.trans {C : MC} {H H1 H2 : Hp} (h : Ext C H H1) (h1 : Ext C H1 H2) : Ext C H H2 := fun a o n1 n2 e => h1 a o n1 n2 (h a o n1 n2 e)
theorem Ext.upd {C : MC} {H : Hp} {p : Addr} {o : HO} (h : H p = none) : Ext C H (upd H p o) := fun a u _ _ e => by rw [upd_ne (ne_of_none e h)]; exact e
theorem StOk.ne {C : MC} {H : Hp} (h : StOk C H) {p : Addr} (hp : H p = none) : p ≠ C.sA ∧ p ≠ C.cA := by
  obtain ⟨cs, seed, _, h1, h2, _⟩ := h
  exact ⟨fun e => (by rw [e, h1] at hp; cases hp), fun e => (by rw [e, h2] at hp; cases hp)⟩
theorem StOk.upd {C : MC} {H : Hp} {p : Addr} {o : HO} (h : StOk C H) (hp : p ≠ C.sA ∧ p ≠ C.cA) : StOk C (upd H p o) := by
  obtain ⟨cs, seed, n, h1, h2, h3⟩ := h
  exact ⟨cs, seed, n, by rw [upd_ne hp.1.symm]; exact h1, by rw [upd_ne hp.2.symm]; exact h2, h3⟩
theorem Ext.none {C : MC} {H H' : Hp} (e : Ext C H H') (st : StOk C H') {p : Addr} (hp : H' p = none) : H p = none := by
  cases q : H p with
  | none => rfl
  | some o =>
    have n := st.ne hp
    rw [e p o n.1 n.2 q] at hp
    cases hp
/-- the masked addresses hold the drawing state -/
structure MOk (C : MC) (M : Addr → Prop) (H : Hp) : Prop where
  s : M C.sA
  c : M C.cA
  x : ∀ a, M a → H a ≠ none
theorem MOk.ext {C : MC} {M : Addr → Prop} {H H' : Hp} (m : MOk C M H) (e : Ext C H H') (st : StOk C H') : MOk C M H' := ⟨m.s, m.c, fun a ha q => m.x a ha (e.none st q)⟩
theorem MOk.sub {C : MC} {M : Addr → Prop} {H H' : Hp} (m : MOk C M H) (e : Ext C H H') : Sub (mask H M) (mask H' M) := mask_mono fun a o h1 h2 =>
  ⟨h1, e a o (fun z => h1 (by rw [z]; exact m.s)) (fun z => h1 (by rw [z]; exact m.c)) h2⟩

/-! ### a list or dict at an address -/
inductive OwR (C : MC) (H : Hp) (M : Addr → Prop) (a : Addr) : D → Prop
  | lst {xs : List V} {ds : List D} : H a = some (.lst xs) → RpA C (mask H M) xs ds → OwR C H M a (.list ds)
  | dk {kvs : List (Key × V)} {ps : List (D × D)} : H a = some (.dK kvs) → ps.map (·.1) = kvs.map (fun q => keyD q.1) → RpA C (mask H M) (kvs.map (·.2)) (ps.map (·.2)) → OwR C H M a (.dict ps)
  | dt {kvs : List (List Key × V)} {ps : List (D × D)} : H a = some (.dT kvs) → ps.map (·.1) = kvs.map (fun q => .tuple (q.1.map keyD)) → RpA C (mask H M) (kvs.map (·.2)) (ps.map (·.2)) → OwR C H M a (.dict ps)
theorem OwR.mono {C : MC} {H H' : Hp} {M M' : Addr → Prop} {a : Addr} {d : D} (h : OwR C H M a d) (s : Sub (mask H M) (mask H' M')) (ha : ∀ o, H a = some o → H' a = some o) : OwR C H' M' a d := by
  cases h with
  | lst h r => exact .lst (ha _ h) (r.mono s)
  | dk h e r => exact .dk (ha _ h) e (r.mono s)
  | dt h e r => exact .dt (ha _ h) e (r.mono s)
theorem OwR.rp {C : MC} {H : Hp} {M : Addr → Prop} {a : Addr} {d : D} (h : OwR C H M a d) (ha : ¬ M a) : Rp C (mask H M) (.ref a) d := by
  cases h with
  | lst h r => exact .lst (mask_some.mpr ⟨ha, h⟩) r
  | dk h e r => exact .dk (mask_some.mpr ⟨ha, h⟩) e r
  | dt h e r => exact .dt (mask_some.mpr ⟨ha, h⟩) e r
theorem OwR.some {C : MC} {H : Hp} {M : Addr → Prop} {a : Addr} {d : D} (h : OwR C H M a d) : ∃ o, H a = some o := by
  cases h with
  | lst h r => exact ⟨_, h⟩
  | dk h e r => exact ⟨_, h⟩
  | dt h e r => exact ⟨_, h⟩
/-- a value that may be a list of a slot's own -/
def RpB (C : MC) (H : Hp) (M : Addr → Prop) (v : V) (d : D) : Prop := Rp C (mask H M) v d ∨ ∃ a, v = .ref a ∧ a ≠ C.sA ∧ a ≠ C.cA ∧ OwR C H M a d
theorem RpB.ext {C : MC} {H H' : Hp} {M : Addr → Prop} {v : V} {d : D} (h : RpB C H M v d) (m : MOk C M H) (e : Ext C H H') : RpB C H' M v d := by
  rcases h with h | ⟨a, rfl, n1, n2, h⟩
  · exact .inl (h.mono (m.sub e))
  · exact .inr ⟨a, rfl, n1, n2, h.mono (m.sub e) fun o q => e a o n1 n2 q⟩
theorem RpB.list {C : MC} {H : Hp} {M : Addr → Prop} {v : V} {ds : List D} (h : RpB C H M v (.list ds)) : ∃ a xs, v = .ref a ∧ H a = some (.lst xs) ∧ RpA C (mask H M) xs ds := by
  rcases h with h | ⟨a, rfl, _, _, h⟩
  · cases h with
    | lst h r => exact ⟨_, _, rfl, (mask_some.mp h).2, r⟩
  · cases h with
    | lst h r => exact ⟨_, _, rfl, h, r⟩
theorem RpB.tuple {C : MC} {H : Hp} {M : Addr → Prop} {v : V} {ds : List D} (h : RpB C H M v (.tuple ds)) : ∃ a xs, v = .ref a ∧ SqT C.K (mask H M) a xs ∧ RpA C (mask H M) xs ds := by
  rcases h with h | ⟨a, rfl, _, _, h⟩
  · cases h with
    | tup h r => exact ⟨_, _, rfl, h, r⟩
  · cases h
theorem RpB.int {C : MC} {H : Hp} {M : Addr → Prop} {v : V} {i : Int} (h : RpB C H M v (.int i)) : v = .int i := by
  rcases h with h | ⟨a, rfl, _, _, h⟩
  · cases h; rfl
  · cases h
theorem RpB.bl {C : MC} {H : Hp} {M : Addr → Prop} {v : V} {b : Bool} (h : RpB C H M v (.bool b)) : v = .bl b := by
  rcases h with h | ⟨a, rfl, _, _, h⟩
  · cases h; rfl
  · cases h
theorem RpB.non {C : MC} {H : Hp} {M : Addr → Prop} {v : V} (h : RpB C H M v .none) : v = .non := by
  rcases h with h | ⟨a, rfl, _, _, h⟩
  · cases h; rfl
  · cases h
theorem RpB.str {C : MC} {H : Hp} {M : Addr → Prop} {v : V} {x : Str} (h : RpB C H M v (.str x)) : v = .str x := by
  rcases h with h | ⟨a, rfl, _, _, h⟩
  · cases h; rfl
  · cases h
inductive RpBA (C : MC) (H : Hp) (M : Addr → Prop) : List V → List D → Prop
  | nil : RpBA C H M [] []
  | cons {v : V} {vs : List V} {d : D} {ds : List D} : RpB C H M v d → RpBA C H M vs ds → RpBA C H M (v :: vs) (d :: ds)
theorem RpBA.ext {C : MC} {H H' : Hp} {M : Addr → Prop} (m : MOk C M H) (e : Ext C H H') : ∀ {vs : List V} {ds : List D}, RpBA C H M vs ds → RpBA C H' M vs ds
  | _, _, .nil => .nil
  | _, _, .cons h r => .cons (h.ext m e) (RpBA.ext m e r)
/-- a new list or dict -/
def FrV (C : MC) (H H' : Hp) (M : Addr → Prop) (v : V) (d : D) : Prop := ∃ a, v = .ref a ∧ H a = none ∧ OwR C H' (fun b => M b ∨ b = a) a d
theorem FrV.rp {C : MC} {H H' : Hp} {M : Addr → Prop} {v : V} {d : D} (h : FrV C H H' M v d) (m : MOk C M H) : Rp C (mask H' M) v d := by
  obtain ⟨a, rfl, hn, h⟩ := h
  have na : ¬ M a := fun z => m.x a z hn
  exact (h.mono (mask_mono fun b o h1 h2 => ⟨fun z => h1 (.inl z), h2⟩) fun o q => q).rp na
theorem FrV.back {C : MC} {H H1 H' : Hp} {M : Addr → Prop} {v : V} {d : D} (h : FrV C H1 H' M v d) (e : Ext C H H1) (st : StOk C H1) : FrV C H H' M v d := by
  obtain ⟨a, rfl, hn, h⟩ := h
  exact ⟨a, rfl, e.none st hn, h⟩

/-! ### slots -/
def Own (ρ : Ev) (σ : L2.St) (a : Addr) : Prop := ∃ (i : Nat) (d : D), ρ[i]? = some (.ow d) ∧ σ[i]? = some (some (V.ref a))
def Ms (S : Addr → Prop) (ρ : Ev) (σ : L2.St) (a : Addr) : Prop := S a ∨ Own ρ σ a
structure ER (C : MC) (S : Addr → Prop) (ρ : Ev) (σ : L2.St) (H : Hp) : Prop where
  len : σ.length = ρ.length
  sh : ∀ (i : Nat) (d : D), ρ[i]? = some (.sh d) → ∃ v, σ[i]? = some (some v) ∧ Rp C (mask H (Ms S ρ σ)) v d
  ow : ∀ (i : Nat) (d : D), ρ[i]? = some (.ow d) → ∃ a : Addr, σ[i]? = some (some (V.ref a)) ∧ ¬ S a ∧ OwR C H (Ms S ρ σ) a d
  dj : ∀ (i j : Nat) (d e : D) (a : Addr), ρ[i]? = some (.ow d) → ρ[j]? = some (.ow e) → σ[i]? = some (some (V.ref a)) → σ[j]? = some (some (V.ref a)) → i = j
  st : StOk C H
  mo : MOk C S H
theorem ER.mok {C : MC} {S : Addr → Prop} {ρ : Ev} {σ : L2.St} {H : Hp} (r : ER C S ρ σ H) : MOk C (Ms S ρ σ) H := ⟨.inl r.mo.s, .inl r.mo.c, fun a h => by
  rcases h with h | ⟨i, d, h1, h2⟩
  · exact r.mo.x a h
  · obtain ⟨b, h3, _, h4⟩ := r.ow i d h1
    rw [h2] at h3; cases h3
    obtain ⟨o, q⟩ := h4.some
    rw [q]; simp⟩
theorem ER.ext {C : MC} {S : Addr → Prop} {ρ : Ev} {σ : L2.St} {H H' : Hp} (r : ER C S ρ σ H) (e : Ext C H H') (st : StOk C H') : ER C S ρ σ H' where
  len := r.len
  sh := fun i d h => by
    obtain ⟨v, h1, h2⟩ := r.sh i d h
    exact ⟨v, h1, h2.mono (r.mok.sub e)⟩
  ow := fun i d h => by
    obtain ⟨a, h1, h2, h3⟩ := r.ow i d h
    exact ⟨a, h1, h2, h3.mono (r.mok.sub e) fun o q => e a o (fun z => h2 (by rw [z]; exact r.mo.s)) (fun z => h2 (by rw [z]; exact r.mo.c)) q⟩
  dj := r.dj
  st := st
  mo := r.mo.ext e st

/-! ### the judgements -/
def isBor : M → Bool
  | .bor _ => true
  | _ => false
def isFr : M → Bool
  | .lst _ | .lc .. | .bin .. | .slice .. | .rev _ | .bi .list _ | .bi .sorted _ | .dempty _ => true
  | _ => false
structure RR (C : MC) (m : M) (H H' : Hp) (Mk : Addr → Prop) (v : V) (d : D) : Prop where
  b : RpB C H' Mk v d
  r : isBor m = false → Rp C (mask H' Mk) v d
  f : isFr m = true → isL d = true → FrV C H H' Mk v d
theorem RR.of {C : MC} {m : M} {H H' : Hp} {Mk : Addr → Prop} {v : V} {d : D} (r : Rp C (mask H' Mk) v d) (f : isFr m = true → isL d = true → FrV C H H' Mk v d) : RR C m H H' Mk v d := ⟨.inl r, fun _ => r, f⟩
def strict : M → Bool
  | .nil => true
  | .cons a as => !isBor a && strict as
  | _ => false
variable (C : MC) (Γ : List Spc)
def liftE (m : M) : TE := fun σ H Q => ∃ S ρ, ER C S ρ σ H ∧ wE Γ m ρ fun d => ∀ v H', Ext C H H' → StOk C H' → RR C m H H' (Ms S ρ σ) v d → Q v H'
def liftA (m : M) : TA := fun σ H Q => ∃ S ρ, ER C S ρ σ H ∧ wA Γ m ρ fun ds => ∀ vs H', Ext C H H' → StOk C H' → RpBA C H' (Ms S ρ σ) vs ds → (strict m = true → RpA C (mask H' (Ms S ρ σ)) vs ds) → Q vs H'
def liftT (m : M) : TT := fun σ H Q => ∃ S ρ, ER C S ρ σ H ∧ wT Γ m ρ fun b => ∀ H', Ext C H H' → StOk C H' → Q b H'
def liftTs (m : M) : TT := fun σ H Q => ∃ S ρ, ER C S ρ σ H ∧ wTs Γ m ρ fun b => ∀ H', Ext C H H' → StOk C H' → Q b H'
/-- J walks the items, as long as the heap has what pr tells; what it yields stands in G and new objects -/
def Wk (Kp : Hp → Prop) (G : Hp) (J : It) (items : List D) : Prop := ∀ (i : Nat) (H : Hp), Kp H →
  (i < items.length → J.go i H ∧ ∀ x H', J.yld i H x H' → (∀ b o, H b = some o → H' b = some o) ∧ ∃ d, items[i]? = some d ∧ ∃ G', Rp C G' x d ∧ ∀ b o, G' b = some o → G b = some o ∨ (H b = none ∧ H' b = some o)) ∧ (items.length ≤ i → J.stop i H)
def strictI : M → Bool
  | .enum a | .revd a | .seq a => !isBor a
  | .zip a b => !isBor a && !isBor b
  | _ => true
def liftI (m : M) : TI := fun σ H R => ∃ S ρ, ER C S ρ σ H ∧ wI Γ m ρ fun items => ∀ J H', Ext C H H' → StOk C H' → Wk C (fun H2 => Ext C H' H2) (mask H' (Ms S ρ σ)) J items → (strictI m = true → Wk C (fun H2 => Sub (mask H' (Ms S ρ σ)) H2) (mask H' (Ms S ρ σ)) J items) → R J H'
/-- a target: what it stores is shared -/
def liftSp (sp : Spc) : Sp := fun vs H Q _ => ∃ S ds Q', MOk C S H ∧ StOk C H ∧ RpA C (mask H S) vs ds ∧ sp ds Q' ∧ ∀ d, Q' d → ∀ v H', Ext C H H' → StOk C H' → Rp C (mask H' S) v d → Q v H'
end Mp

/-! Mini, part D: when a piece of the small syntax is a piece of the given text. -/
namespace Mp
open PySem PySem.Spec PyProof.Rows L2

structure TB where
  gn : List Str
  gs : List Spc
  cn : List (Str × Int)
  gcd : Bool
  isqrt : Bool

def opOf : BOp → Operator
  | .add => .Add | .sub => .Sub | .mul => .Mult | .fdiv => .FloorDiv | .mod => .Mod | .pow => .Pow
def copOf : COp → CmpOp
  | .eq => .Eq | .ne => .NotEq | .lt => .Lt | .le => .LtE | .gt => .Gt | .ge => .GtE | .is => .Is | .isn => .IsNot | .inn => .In | .nin => .NotIn
def visB (sc : Scope) (x : Str) : Bool := match sc.names.lookup x with
  | some .local | some .cell | some .free => true
  | _ => false
def locB (sc : Scope) (x : Str) : Bool := match sc.names.lookup x with
  | some .local | some .cell => true
  | _ => false
def glbB (sc : Scope) (x : Str) : Bool := match sc.names.lookup x with
  | some .globalImplicit => true
  | _ => false
def notDbg (x : Str) : Bool := !(x == ("__debug__" : Str)) && !(x == ("__classdict__" : Str))
def notSet : Expr → Bool
  | .Set .. => false
  | _ => true
def notStar : Expr → Bool
  | .Starred .. => false
  | _ => true
def notSlice : Expr → Bool
  | .Slice .. => false
  | _ => true
def biName : Bi → Str
  | .len => "len" | .abs => "abs" | .int => "int" | .sum => "sum" | .max => "max" | .min => "min" | .sorted => "sorted" | .tuple => "tuple" | .list => "list" | .gcd => "gcd" | .isqrt => "isqrt" | _ => ""
def isiName : Nat → Str
  | 0 => "list" | 1 => "tuple" | 2 => "str" | 3 => "bool" | 4 => "int" | _ => ""
def bltNames : List Str := ["len", "abs", "int", "sum", "max", "min", "sorted", "tuple", "list", "range", "enumerate", "zip", "reversed", "isinstance", "str", "bool", "set", "dict", "any", "all"]
def ownP (N : List Str) (own : List Nat) : List (Str × Nat) := own.filterMap fun i => N[i]?.map fun x => (x, i)
/-- an expression that isinstance, a truth test and the like take as it is -/
def plainTest : Expr → Bool
  | .UnaryOp .Not _ _ | .BoolOp .. | .IfExp .. | .Compare .. => false
  | _ => true
def isComp : Expr → Bool
  | .ListComp .. | .SetComp .. | .DictComp .. => true
  | _ => false
def isTupE : Expr → Bool
  | .Tuple .. => true
  | _ => false
def biOk (T : TB) : Bi → Bool
  | .gcd => T.gcd
  | .len | .abs | .int | .sum | .max | .min | .sorted | .tuple | .list => true
  | _ => false

section
variable (N : List Str)
mutual
def mtG : M → Scope → Expr → Bool
  | .var i, sc, .Name x _ => decide (N[i]? = some x) && locB sc x
  | .tup ts, sc, .Tuple xs _ _ => mtGs ts sc xs
  | _, _, _ => false
termination_by structural m => m
def mtGs : M → Scope → List Expr → Bool
  | .nil, _, [] => true
  | .cons t ts, sc, x :: xs => notStar x && mtG t sc x && mtGs ts sc xs
  | _, _, _ => false
termination_by structural m => m
end
/-- a comprehension's target stores into its own slots alone -/
def tgIn : M → List Nat → Bool
  | .var i, own => own.contains i
  | .tup ts, own => tgIn ts own
  | .nil, _ => true
  | .cons t ts, own => tgIn t own && tgIn ts own
  | _, _ => false
termination_by structural m => m

end
variable (T : TB) (N : List Str)
mutual
def mtE : M → Scope → Expr → Bool
  | .var i, sc, .Name x _ => decide (N[i]? = some x) && visB sc x && notDbg x
  | .bor i, sc, .Name x _ => decide (N[i]? = some x) && visB sc x && notDbg x
  | .int i, _, .Constant (.int j) _ _ => decide (i = j)
  | .bl i, _, .Constant (.bool j) _ _ => decide (i = j)
  | .non, _, .Constant .none _ _ => true
  | .str s, _, .Constant (.str t) _ _ => decide (s = t)
  | .glob x i, sc, .Name y _ => decide (x = y) && glbB sc x && notDbg x && decide ((x, i) ∈ T.cn)
  | .bin op a b, sc, .BinOp x o y _ => decide (opOf op = o) && mtE a sc x && mtE b sc y
  | .neg a, sc, .UnaryOp .USub x _ => mtE a sc x
  | .cmp op a b, sc, .Compare x [o] [y] _ => decide (copOf op = o) && notSet y && mtE a sc x && mtE b sc y
  | .chain o1 o2 a b c, sc, .Compare x [p1, p2] [y, z] _ => decide (copOf o1 = p1) && decide (copOf o2 = p2) && notSet y && notSet z && mtE a sc x && mtE b sc y && mtE c sc z
  | .andV a b, sc, .BoolOp .And (x :: y :: r) p => !isBor b && mtE a sc x && (match r with | [] => mtE b sc y | _ :: _ => mtE b sc (.BoolOp .And (y :: r) p))
  | .orV a b, sc, .BoolOp .Or (x :: y :: r) p => !isBor b && mtE a sc x && (match r with | [] => mtE b sc y | _ :: _ => mtE b sc (.BoolOp .Or (y :: r) p))
  | .notV a, sc, .UnaryOp .Not x _ => mtE a sc x
  | .ite c a b, sc, .IfExp t x y _ => !isBor a && !isBor b && mtT c sc t && mtE a sc x && mtE b sc y
  | .tup as, sc, .Tuple xs _ _ => strict as && mtA as sc xs
  | .lst as, sc, .List xs _ => strict as && mtA as sc xs
  | .ix a b, sc, .Subscript x y _ => notSlice y && mtE a sc x && mtE b sc y
  | .slice a lo hi, sc, .Subscript x (.Slice l h none _) _ => mtE a sc x && mtP lo sc l && mtP hi sc h
  | .call g as, sc, .Call (.Name x _) (e :: es) [] _ => strict as && decide (T.gn[g]? = some x) && glbB sc x && notDbg x && mtA as sc (e :: es)
  | .bi b as, sc, .Call (.Name x _) (e :: es) [] _ => decide (biName b = x) && biOk T b && glbB sc x && mtA as sc (e :: es)
  | .isi a ty, sc, .Call (.Name f _) [e, .Name x _] [] _ => decide (f = "isinstance") && glbB sc f && decide (isiName ty = x) && decide (ty < 5) && glbB sc x && notStar e && mtE a sc e
  | .rev a, sc, .Subscript x (.Slice none none (some (.UnaryOp .USub (.Constant (.int j) _ _) _)) _) _ => decide (j = 1) && mtE a sc x
  | .lc own tg it ifs elt, sc, .ListComp x [⟨t, i, fs, as⟩] scope _ => decide (as = 0) && !isBor elt && blkC N sc scope (ownP N own) && decide ((ownP N own).map (·.2) = own) && notSet i && mtI it sc t i && mtG N tg scope t && mtTs ifs scope fs && mtE elt scope x && tgIn tg own
  | _, _, _ => false
termination_by structural m => m
def mtP : M → Scope → Option Expr → Bool
  | .nil, _, none => true
  | .cons a .nil, sc, some x => mtE a sc x
  | _, _, _ => false
termination_by structural m => m
def mtA : M → Scope → List Expr → Bool
  | .nil, _, [] => true
  | .cons a as, sc, x :: xs => notStar x && mtE a sc x && mtA as sc xs
  | _, _, _ => false
termination_by structural m => m
def mtT : M → Scope → Expr → Bool
  | .cmpT op a b, sc, .Compare x [o] [y] _ => decide (copOf op = o) && notSet y && mtE a sc x && mtE b sc y
  | .chainT o1 o2 a b c, sc, .Compare x [p1, p2] [y, z] _ => decide (copOf o1 = p1) && decide (copOf o2 = p2) && notSet y && notSet z && mtE a sc x && mtE b sc y && mtE c sc z
  | .andT a b, sc, .BoolOp .And (x :: y :: r) p => mtT a sc x && (match r with | [] => mtT b sc y | _ :: _ => mtT b sc (.BoolOp .And (y :: r) p))
  | .orT a b, sc, .BoolOp .Or (x :: y :: r) p => mtT a sc x && (match r with | [] => mtT b sc y | _ :: _ => mtT b sc (.BoolOp .Or (y :: r) p))
  | .notT a, sc, .UnaryOp .Not x _ => mtT a sc x
  | .tru a, sc, x => plainTest x && mtE a sc x
  | _, _, _ => false
termination_by structural m => m
def mtTs : M → Scope → List Expr → Bool
  | .nil, _, [] => true
  | .cons c .nil, sc, [x] => mtT c sc x
  | _, _, _ => false
termination_by structural m => m
def mtI : M → Scope → Expr → Expr → Bool
  | .rng1 a, sc, _, .Call (.Name x _) [e] [] _ => decide (x = "range") && glbB sc x && notStar e && mtE a sc e
  | .rng2 a b, sc, _, .Call (.Name x _) [e, f] [] _ => decide (x = "range") && glbB sc x && notStar e && notStar f && mtE a sc e && mtE b sc f
  | .rng3 a b c, sc, _, .Call (.Name x _) [e, f, g] [] _ => decide (x = "range") && glbB sc x && notStar e && notStar f && notStar g && mtE a sc e && mtE b sc f && mtE c sc g
  | .enum a, sc, t, .Call (.Name x _) [e] [] _ => decide (x = "enumerate") && glbB sc x && notStar e && isTupE t && mtE a sc e
  | .zip a b, sc, t, .Call (.Name x _) [e, f] [] _ => decide (x = "zip") && glbB sc x && notStar e && notStar f && isTupE t && mtE a sc e && mtE b sc f
  | .revd a, sc, _, .Call (.Name x _) [e] [] _ => decide (x = "reversed") && glbB sc x && notStar e && mtE a sc e
  | .seq a, sc, _, e => mtE a sc e
  | _, _, _, _ => false
termination_by structural m => m
end
end Mp

/-! Mini, part E: operators by values keep what the small meaning says. -/
namespace Mp
open PySem PySem.Spec PyProof.Rows L2

section
variable {C : MC} {H : Hp} {Mk : Addr → Prop} {p : Addr} {xs : List V} {ds : List D}
theorem fresh_lst (mo : MOk C Mk H) (st : StOk C H) (hp : H p = none) (r : RpA C (mask H Mk) xs ds) : Ext C H (upd H p (.lst xs)) ∧ StOk C (upd H p (.lst xs)) ∧ Rp C (mask (upd H p (.lst xs)) Mk) (.ref p) (.list ds) ∧ FrV C H (upd H p (.lst xs)) Mk (.ref p) (.list ds) := by
  have f : FrV C H (upd H p (.lst xs)) Mk (.ref p) (.list ds) := ⟨p, rfl, hp, .lst upd_same (r.mono (mask_mono fun a o h1 h2 => ⟨fun z => z.elim h1 fun e => (by rw [e, hp] at h2; cases h2), by rw [upd_ne (ne_of_none h2 hp)]; exact h2⟩))⟩
  exact ⟨Ext.upd hp, st.upd (st.ne hp), f.rp mo, f⟩
theorem fresh_tup (mo : MOk C Mk H) (st : StOk C H) (hp : H p = none) (r : RpA C (mask H Mk) xs ds) : Ext C H (upd H p (.tup xs)) ∧ StOk C (upd H p (.tup xs)) ∧ Rp C (mask (upd H p (.tup xs)) Mk) (.ref p) (.tuple ds) := by
  have np : ¬ Mk p := fun z => mo.x p z hp
  refine ⟨Ext.upd hp, st.upd (st.ne hp), .tup (.inl (.inl (mask_some.mpr ⟨np, upd_same⟩))) (r.mono (mask_mono fun a o h1 h2 => ⟨h1, by rw [upd_ne (ne_of_none h2 hp)]; exact h2⟩))⟩
end

theorem floordiv_all {X : Cx} : OpR X (binaryOp .FloorDiv) (rI (fun _ j => DivOk j) fun i j => .int (i.fdiv j)) := opI fun _ _ _ _ _ _ _ hc q => floordiv_int hc.1 q (.inl (PyProof.noPylong_of_log2 hc.2))

/-- what an operator's result is to be -/
def Res (C : MC) (Mk : Addr → Prop) (Q : VK) (H : Hp) (d : D) : Prop := ∀ v H', Ext C H H' → StOk C H' → Rp C (mask H' Mk) v d → (isL d = true → FrV C H H' Mk v d) → Q v H'
theorem op_bin {C : MC} {X : Cx} (hK : X.K = C.K) (b : BOp) : OpR X (binaryOp (opOf b)) fun v u H Q => ∃ Mk x y, MOk C Mk H ∧ StOk C H ∧ RpB C H Mk v x ∧ RpB C H Mk u y ∧ binW b x y (Res C Mk Q H) := by
  intro pins s σ H v u vv uu Q I rv ru h
  obtain ⟨Mk, x, y, mo, st, rx, ry, h⟩ := h
  have one : ∀ {i : Int}, Res C Mk Q H (.int i) → Q (.int i) H := fun {i} h => h _ _ Ext.refl st (.int _) fun z => by cases z
  cases b <;> cases x <;> cases y <;> first
    | exact h.elim
    | skip
  · obtain rfl := rx.int; obtain rfl := ry.int
    exact op_add pins s σ H _ _ vv uu Q I rv ru ⟨_, _, rfl, rfl, one h⟩
  · obtain ⟨a, xs, rfl, h1, r1⟩ := rx.list; obtain ⟨b, ys, rfl, h2, r2⟩ := ry.list
    refine op_cat pins s σ H _ _ vv uu Q I rv ru ⟨a, b, xs, ys, rfl, rfl, h1, h2, by rw [r1.length, r2.length]; exact h.1, fun p hp => ?_⟩
    obtain ⟨f1, f2, f3, f4⟩ := fresh_lst mo st hp (r1.append r2)
    exact h.2 _ _ f1 f2 f3 fun _ => f4
  · obtain ⟨a, xs, rfl, h1, r1⟩ := rx.tuple; obtain ⟨b, ys, rfl, h2, r2⟩ := ry.tuple
    have r3 : RpA C (mask H Mk) (xs ++ ys) _ := r1.append r2
    refine op_catA pins s σ H _ _ vv uu Q I rv ru ⟨a, b, xs, ys, rfl, rfl, by rw [hK]; exact mask_sub.sqT h1, by rw [hK]; exact mask_sub.sqT h2, by rw [r1.length, r2.length]; exact h.1, fun e => ?_, fun e e2 => ?_, fun _ _ p hp => ?_⟩
    · subst e
      exact h.2 _ _ Ext.refl st (.tup h2 r3) fun z => by cases z
    · subst e2
      rw [List.append_nil] at r3
      exact h.2 _ _ Ext.refl st (.tup h1 r3) fun z => by cases z
    · obtain ⟨f1, f2, f3⟩ := fresh_tup mo st hp r3
      exact h.2 _ _ f1 f2 f3 fun z => by cases z
  · obtain rfl := rx.int; obtain rfl := ry.int
    exact op_sub pins s σ H _ _ vv uu Q I rv ru ⟨_, _, rfl, rfl, one h⟩
  · obtain rfl := rx.int; obtain rfl := ry.int
    rcases h.1 with c | c
    · exact op_mul pins s σ H _ _ vv uu Q I rv ru ⟨_, _, rfl, rfl, c, one h.2⟩
    · exact op_mulX pins s σ H _ _ vv uu Q I rv ru ⟨_, _, rfl, rfl, c, one h.2⟩
  · obtain ⟨a, xs, rfl, h1, r1⟩ := rx.list; obtain rfl := ry.int
    refine op_rep pins s σ H _ _ vv uu Q I rv ru ⟨a, _, xs, rfl, rfl, h1, h.1.1, h.1.2, by rw [r1.length]; exact h.2.1, fun p hp => ?_⟩
    obtain ⟨f1, f2, f3, f4⟩ := fresh_lst mo st hp (r1.rep _)
    exact h.2.2 _ _ f1 f2 f3 fun _ => f4
  · obtain ⟨a, xs, rfl, h1, r1⟩ := rx.tuple; obtain rfl := ry.int
    refine op_repT pins s σ H _ _ vv uu Q I rv ru ⟨a, _, xs, rfl, rfl, by rw [hK]; exact mask_sub.sqT h1, fun e => ?_, h.1.2.1, h.1.2.2.1, by rw [r1.length]; exact h.1.2.2.2, fun p hp => ?_⟩
    · subst e; cases r1; exact h.1.1 rfl
    · obtain ⟨f1, f2, f3⟩ := fresh_tup mo st hp (r1.rep _)
      exact h.2 _ _ f1 f2 f3 fun z => by cases z
  · obtain rfl := rx.int; obtain rfl := ry.int
    refine floordiv_all pins s σ H _ _ vv uu Q I rv ru ⟨_, _, rfl, rfl, h.1, ?_⟩
    rcases h.2 with ⟨c, h⟩ | ⟨c, h⟩
    · show Q (.int (Int.fdiv _ _)) H
      rw [Int.fdiv_eq_ediv_of_nonneg _ (Int.le_of_lt c)]; exact one h
    · exact one h
  · obtain rfl := rx.int; obtain rfl := ry.int
    rcases h with ⟨c, h⟩ | ⟨c, h⟩
    · exact op_mod pins s σ H _ _ vv uu Q I rv ru ⟨_, _, rfl, rfl, c, one h⟩
    · exact op_modN pins s σ H _ _ vv uu Q I rv ru ⟨_, _, rfl, rfl, Int.ne_of_lt c, one h⟩
  · obtain rfl := rx.int; obtain rfl := ry.int
    exact op_pow pins s σ H _ _ vv uu Q I rv ru ⟨_, _, rfl, rfl, h.1, one h.2⟩

/-! ### == of data -/
mutual
theorem Rp.dp {C : MC} {H : Hp} : ∀ {v : V} {d : D}, Rp C H v d → d.canLay0 = true → Dp C.K H v d
  | _, _, .non, _ => .non
  | _, _, .bl b, _ => .bl b
  | _, _, .int i, _ => .int i
  | _, _, .str x, _ => .str x
  | _, _, .lst h r, c => .lst (SqL.of h) (RpA.dp r (by simpa [PyData.canLay0] using c))
  | _, _, .tup h r, c => .tup h (RpA.dp r (by simpa [PyData.canLay0] using c))
  | _, _, .dk h e r, c => by simp [PyData.canLay0] at c
  | _, _, .dt h e r, c => by simp [PyData.canLay0] at c
  | _, _, .st, c => by simp [stTok, PyData.canLay0] at c
theorem RpA.dp {C : MC} {H : Hp} : ∀ {vs : List V} {ds : List D}, RpA C H vs ds → PyData.canLayAll0 ds = true → DpAll C.K H vs ds
  | _, _, .nil, _ => .nil
  | _, _, .cons h r, c => by
    simp only [PyData.canLayAll0, Bool.and_eq_true] at c
    exact .cons (Rp.dp h c.1) (RpA.dp r c.2)
end
theorem RpB.dp {C : MC} {H : Hp} {M : Addr → Prop} {v : V} {d : D} (h : RpB C H M v d) (c : d.canLay0 = true) : Dp C.K H v d := by
  rcases h with h | ⟨a, rfl, _, _, h⟩
  · exact (h.mono mask_sub).dp c
  · cases h with
    | lst h r => exact .lst (SqL.of h) ((r.mono mask_sub).dp (by simpa [PyData.canLay0] using c))
    | dk h e r => simp [PyData.canLay0] at c
    | dt h e r => simp [PyData.canLay0] at c
theorem Cm.shaped {d : D} (h : Cm 60 d) : SeqAt.shaped d = true := by
  unfold SeqAt.shaped
  rw [h.1, Bool.true_and]
  exact decide_eq_true (Nat.le_trans h.2 (by decide))
theorem Rp.isN {C : MC} {H : Hp} {v : V} {d : D} (h : Rp C H v d) : decide (v = .non) = isN d := by
  cases h <;> first | rfl | exact decide_eq_false (fun z => by cases z)
theorem RpB.isN {C : MC} {H : Hp} {M : Addr → Prop} {v : V} {d : D} (h : RpB C H M v d) : decide (v = .non) = isN d := by
  rcases h with h | ⟨a, rfl, _, _, h⟩
  · exact h.isN
  · cases h <;> exact decide_eq_false (fun z => by cases z)
theorem flat_of {C : MC} {H : Hp} {v : V} {d : D} (h : Rp C H v d) (f : flatD d = true) : flatV v = true := by
  cases h <;> first | rfl | cases f
theorem RpB.flat {C : MC} {H : Hp} {M : Addr → Prop} {v : V} {d : D} (h : RpB C H M v d) (f : flatD d = true) : Rp C (mask H M) v d := by
  rcases h with h | ⟨a, rfl, _, _, h⟩
  · exact h
  · cases h <;> cases f
theorem eqV_of {C : MC} {H : Hp} {v u : V} {d e : D} (h : Rp C H v d) (h' : Rp C H u e) (f : flatD d = true) (f' : flatD e = true) : eqV v u = PyData.eqv d e := by
  cases h <;> first | cases f | skip
  all_goals (cases h' <;> first | cases f' | skip)
  all_goals simp only [eqV, PyData.eqv]
end Mp

/-! Mini, part F: comparisons and built-in functions by values. -/
namespace Mp
open PySem PySem.Spec PyProof.Rows L2

theorem any_eqV {C : MC} {H : Hp} {v : V} {x : D} (h : Rp C H v x) (f : flatD x = true) : ∀ {xs : List V} {ds : List D}, RpA C H xs ds → ds.all flatD = true → (xs.any fun y => eqV y v) = ds.any fun z => PyData.eqv z x
  | _, _, .nil, _ => rfl
  | _, _, .cons q r, g => by
    simp only [List.all_cons, Bool.and_eq_true] at g
    simp only [List.any_cons]
    rw [eqV_of q h g.1 f, any_eqV h f r g.2]
theorem all_flat {C : MC} {H : Hp} : ∀ {xs : List V} {ds : List D}, RpA C H xs ds → ds.all flatD = true → xs.all flatV = true
  | _, _, .nil, _ => rfl
  | _, _, .cons q r, g => by
    simp only [List.all_cons, Bool.and_eq_true] at g ⊢
    exact ⟨flat_of q g.1, all_flat r g.2⟩

theorem op_cmpD {C : MC} {X : Cx} (hK : X.K = C.K) (hu : X.A.units + 65 < cLine) (b : COp) : OpR X (compareOp (copOf b)) fun v u H Q => ∃ Mk x y, RpB C H Mk v x ∧ RpB C H Mk u y ∧ cmpW b x y fun k => Q (.bl k) H := by
  intro pins s σ H v u vv uu Q I rv ru h
  obtain ⟨Mk, x, y, rx, ry, h⟩ := h
  have hu2 : X.A.units + 64 < cLine := by omega
  have heq : ∀ {x y : D}, RpB C H Mk v x → RpB C H Mk u y → (Cm 60 x ∧ Cm 60 y ∧ Q (.bl (PyData.eqv x y)) H) → wpAny (model X.prog X.w) X.A (compareOp .Eq vv uu) (L2.EP X pins σ Q) X.xe s := fun {x y} rx ry h =>
    op_eqD hu2 pins s σ H _ _ vv uu Q I rv ru ⟨x, y, by rw [hK]; exact rx.dp h.1.1, by rw [hK]; exact ry.dp h.2.1.1, h.1.shaped, h.2.1.shaped, h.2.2⟩
  have hne : ∀ {x y : D}, RpB C H Mk v x → RpB C H Mk u y → (Cm 60 x ∧ Cm 60 y ∧ Q (.bl (!PyData.eqv x y)) H) → wpAny (model X.prog X.w) X.A (compareOp .NotEq vv uu) (L2.EP X pins σ Q) X.xe s := fun {x y} rx ry h =>
    op_neD hu2 pins s σ H _ _ vv uu Q I rv ru ⟨x, y, by rw [hK]; exact rx.dp h.1.1, by rw [hK]; exact ry.dp h.2.1.1, h.1.shaped, h.2.1.shaped, h.2.2⟩
  have hin : ∀ {x : D} {ys : List D}, RpB C H Mk v x → RpB C H Mk u (.list ys) → (Cm 60 x ∧ Cm 60 (.list ys) ∧ Q (.bl (ys.any fun z => PyData.eqv z x)) H) → wpAny (model X.prog X.w) X.A (compareOp .In vv uu) (L2.EP X pins σ Q) X.xe s := fun {x ys} rx ry h =>
    op_inD hu pins s σ H _ _ vv uu Q I rv ru ⟨x, ys, by rw [hK]; exact rx.dp h.1.1, by rw [hK]; exact ry.dp h.2.1.1, h.1.shaped, h.2.1.shaped, h.2.2⟩
  have hnin : ∀ {x : D} {ys : List D}, RpB C H Mk v x → RpB C H Mk u (.list ys) → (Cm 60 x ∧ Cm 60 (.list ys) ∧ Q (.bl (!ys.any fun z => PyData.eqv z x)) H) → wpAny (model X.prog X.w) X.A (compareOp .NotIn vv uu) (L2.EP X pins σ Q) X.xe s := fun {x ys} rx ry h =>
    op_notInD hu pins s σ H _ _ vv uu Q I rv ru ⟨x, ys, by rw [hK]; exact rx.dp h.1.1, by rw [hK]; exact ry.dp h.2.1.1, h.1.shaped, h.2.1.shaped, h.2.2⟩
  have hint : ∀ {x : D} {ys : List D}, RpB C H Mk v x → RpB C H Mk u (.tuple ys) → (flatD x = true ∧ ys.all flatD = true ∧ Q (.bl (ys.any fun z => PyData.eqv z x)) H) → wpAny (model X.prog X.w) X.A (compareOp .In vv uu) (L2.EP X pins σ Q) X.xe s := fun {x ys} rx ry h => by
    obtain ⟨a, xs, rfl, h1, r1⟩ := ry.tuple
    refine op_in_seq pins s σ H _ _ vv uu Q I rv ru ⟨a, xs, rfl, .inr (by rw [hK]; exact mask_sub.sqT h1), flat_of (rx.flat h.1) h.1, all_flat r1 h.2.1, ?_⟩
    show Q (.bl (inV v xs)) H
    unfold inV
    rw [any_eqV (rx.flat h.1) h.1 r1 h.2.1]
    exact h.2.2
  have hnint : ∀ {x : D} {ys : List D}, RpB C H Mk v x → RpB C H Mk u (.tuple ys) → (flatD x = true ∧ ys.all flatD = true ∧ Q (.bl (!ys.any fun z => PyData.eqv z x)) H) → wpAny (model X.prog X.w) X.A (compareOp .NotIn vv uu) (L2.EP X pins σ Q) X.xe s := fun {x ys} rx ry h => by
    obtain ⟨a, xs, rfl, h1, r1⟩ := ry.tuple
    refine op_notIn_seq pins s σ H _ _ vv uu Q I rv ru ⟨a, xs, rfl, .inr (by rw [hK]; exact mask_sub.sqT h1), flat_of (rx.flat h.1) h.1, all_flat r1 h.2.1, ?_⟩
    show Q (.bl (!inV v xs)) H
    unfold inV
    rw [any_eqV (rx.flat h.1) h.1 r1 h.2.1]
    exact h.2.2
  have hisN : ∀ {x : D}, RpB C H Mk v x → RpB C H Mk u .none → Q (.bl (isN x)) H → wpAny (model X.prog X.w) X.A (compareOp .Is vv uu) (L2.EP X pins σ Q) X.xe s := fun {x} rx ry h =>
    op_isN pins s σ H _ _ vv uu Q I rv ru ⟨ry.non, by rw [rx.isN]; exact h⟩
  have hisnN : ∀ {x : D}, RpB C H Mk v x → RpB C H Mk u .none → Q (.bl (!isN x)) H → wpAny (model X.prog X.w) X.A (compareOp .IsNot vv uu) (L2.EP X pins σ Q) X.xe s := fun {x} rx ry h =>
    op_notN pins s σ H _ _ vv uu Q I rv ru ⟨ry.non, by rw [rx.isN]; exact h⟩
  have hi2 : ∀ {i j : Int}, RpB C H Mk v (.int i) → RpB C H Mk u (.int j) → v = .int i ∧ u = .int j := fun a b => ⟨a.int, b.int⟩
  cases b <;> cases x <;> cases y <;> first
    | exact h.elim
    | exact heq rx ry h
    | exact hne rx ry h
    | exact hin rx ry h
    | exact hnin rx ry h
    | exact hint rx ry h
    | exact hnint rx ry h
    | exact hisN rx ry h
    | exact hisnN rx ry h
    | skip
  · obtain rfl := rx.bl; obtain rfl := ry.bl
    have h' : Q (.bl (decide (_ = _))) H := h
    exact op_eq pins s σ H _ _ vv uu Q I rv ru ⟨rfl, by simpa using h'⟩
  · obtain rfl := rx.int; obtain rfl := ry.int
    have h' : Q (.bl (decide (_ = _))) H := h
    exact op_eq pins s σ H _ _ vv uu Q I rv ru ⟨rfl, by simpa using h'⟩
  · obtain rfl := rx.bl; obtain rfl := ry.bl
    have h' : Q (.bl (!decide (_ = _))) H := h
    exact op_ne pins s σ H _ _ vv uu Q I rv ru ⟨rfl, by simpa using h'⟩
  · obtain rfl := rx.int; obtain rfl := ry.int
    have h' : Q (.bl (!decide (_ = _))) H := h
    exact op_ne pins s σ H _ _ vv uu Q I rv ru ⟨rfl, by simpa using h'⟩
  · obtain rfl := rx.int; obtain rfl := ry.int
    exact op_lt pins s σ H _ _ vv uu Q I rv ru ⟨_, _, rfl, rfl, h⟩
  · obtain rfl := rx.int; obtain rfl := ry.int
    exact op_le pins s σ H _ _ vv uu Q I rv ru ⟨_, _, rfl, rfl, h⟩
  · obtain rfl := rx.int; obtain rfl := ry.int
    exact op_gt pins s σ H _ _ vv uu Q I rv ru ⟨_, _, rfl, rfl, h⟩
  · obtain rfl := rx.int; obtain rfl := ry.int
    exact op_ge pins s σ H _ _ vv uu Q I rv ru ⟨_, _, rfl, rfl, h⟩
  · obtain rfl := rx.bl; obtain rfl := ry.bl
    exact op_isBl pins s σ H _ _ vv uu Q I rv ru ⟨_, _, rfl, rfl, h⟩
  · obtain rfl := rx.bl; obtain rfl := ry.bl
    exact op_notBl pins s σ H _ _ vv uu Q I rv ru ⟨_, _, rfl, rfl, h⟩

/-! ### built-in functions -/
theorem RpBA.one {C : MC} {H : Hp} {Mk : Addr → Prop} {vs : List V} {d : D} (h : RpBA C H Mk vs [d]) : ∃ v, vs = [v] ∧ RpB C H Mk v d := by
  cases h with
  | cons h r => cases r; exact ⟨_, rfl, h⟩
theorem RpBA.two {C : MC} {H : Hp} {Mk : Addr → Prop} {vs : List V} {d e : D} (h : RpBA C H Mk vs [d, e]) : ∃ v u, vs = [v, u] ∧ RpB C H Mk v d ∧ RpB C H Mk u e := by
  cases h with
  | cons h r =>
    obtain ⟨u, rfl, q⟩ := r.one
    exact ⟨_, _, rfl, h, q⟩
def biR (C : MC) (b : Bi) : List V → Hp → VK → Prop := fun vs H Q => ∃ Mk ds, MOk C Mk H ∧ StOk C H ∧ RpBA C H Mk vs ds ∧ biW b ds (Res C Mk Q H)
section
variable {C : MC} {X : Cx} {Mk : Addr → Prop} {H : Hp} {Q : VK}
theorem Res.int {i : Int} (h : Res C Mk Q H (.int i)) (st : StOk C H) : Q (.int i) H := h _ _ Ext.refl st (.int _) fun z => by cases z
theorem Res.bl {i : Bool} (h : Res C Mk Q H (.bool i)) (st : StOk C H) : Q (.bl i) H := h _ _ Ext.refl st (.bl _) fun z => by cases z
theorem bi_len (hK : X.K = C.K) : CallR X (.builtin "len") (biR C .len) := by
  intro pins s σ H vs us Q I r h
  obtain ⟨Mk, ds, mo, st, rd, h⟩ := h
  rcases ds with _ | ⟨x, _ | ⟨y, ds⟩⟩
  · exact h.elim
  · obtain ⟨v, rfl, rx⟩ := rd.one
    cases x <;> first | exact h.elim | skip
    · obtain ⟨a, xs, rfl, h1, r1⟩ := rx.list
      exact call_len_seq pins s σ H _ us Q I r ⟨a, xs, rfl, .inl (SqL.of h1), by rw [r1.length]; exact Res.int h st⟩
    · obtain ⟨a, xs, rfl, h1, r1⟩ := rx.tuple
      exact call_len_seq pins s σ H _ us Q I r ⟨a, xs, rfl, .inr (by rw [hK]; exact mask_sub.sqT h1), by rw [r1.length]; exact Res.int h st⟩
  · cases x <;> exact h.elim
theorem bi_abs : CallR X (.builtin "abs") (biR C .abs) := by
  intro pins s σ H vs us Q I r h
  obtain ⟨Mk, ds, mo, st, rd, h⟩ := h
  rcases ds with _ | ⟨x, _ | ⟨y, ds⟩⟩
  · exact h.elim
  · obtain ⟨v, rfl, rx⟩ := rd.one
    cases x <;> first | exact h.elim | skip
    obtain rfl := rx.int
    refine call_abs pins s σ H _ us Q I r ⟨_, rfl, ?_⟩
    have := Res.int h st
    rename_i i
    have e : (if i < 0 then -i else i) = (i.natAbs : Int) := by split <;> omega
    rw [e]; exact this
  · cases x <;> exact h.elim
theorem bi_int : CallR X (.type "int") (biR C .int) := by
  intro pins s σ H vs us Q I r h
  obtain ⟨Mk, ds, mo, st, rd, h⟩ := h
  rcases ds with _ | ⟨x, _ | ⟨y, ds⟩⟩
  · exact h.elim
  · obtain ⟨v, rfl, rx⟩ := rd.one
    cases x <;> first | exact h.elim | skip
    · obtain rfl := rx.bl
      exact call_int1 pins s σ H _ us Q I r (.inr ⟨_, rfl, Res.int h st⟩)
    · obtain rfl := rx.int
      exact call_int1 pins s σ H _ us Q I r (.inl ⟨_, rfl, Res.int h st⟩)
  · cases x <;> exact h.elim
theorem bi_sum (hK : X.K = C.K) (hc : X.calm = true) : CallR X (.builtin "sum") (biR C .sum) := by
  intro pins s σ H vs us Q I r h
  obtain ⟨Mk, ds, mo, st, rd, h⟩ := h
  rcases ds with _ | ⟨x, _ | ⟨y, ds⟩⟩
  · exact h.elim
  · obtain ⟨v, rfl, rx⟩ := rd.one
    cases x <;> first | exact h.elim | skip
    obtain ⟨a, xs, rfl, h1, r1⟩ := rx.list
    obtain ⟨ns, rfl, h⟩ := h
    rw [r1.ints] at h1
    exact cr_sum hc pins s σ H _ us Q I r ⟨a, ns, rfl, SqL.of h1, Res.int h st⟩
  · cases x <;> exact h.elim
theorem bi_max (hK : X.K = C.K) (hc : X.calm = true) : CallR X (.builtin "max") (biR C .max) := by
  intro pins s σ H vs us Q I r h
  obtain ⟨Mk, ds, mo, st, rd, h⟩ := h
  rcases ds with _ | ⟨x, _ | ⟨y, _ | ⟨z, ds⟩⟩⟩
  · exact h.elim
  · obtain ⟨v, rfl, rx⟩ := rd.one
    cases x <;> first | exact h.elim | skip
    obtain ⟨a, xs, rfl, h1, r1⟩ := rx.list
    obtain ⟨ns, rfl, hne, h⟩ := h
    rw [r1.ints] at h1
    exact cr_max hc pins s σ H _ us Q I r ⟨a, ns, rfl, SqL.of h1, List.length_pos_iff.mpr hne, fun m a b => Res.int (h m a b) st⟩
  · obtain ⟨v, u, rfl, rx, ry⟩ := rd.two
    cases x <;> cases y <;> first | exact h.elim | skip
    obtain rfl := rx.int
    obtain rfl := ry.int
    rename_i i j
    refine call_max2 hc pins s σ H _ us Q I r ⟨_, _, rfl, ?_⟩
    have e : (if j > i then j else i) = max i j := by split <;> omega
    rw [e]; exact Res.int h st
  · cases x <;> cases y <;> exact h.elim
theorem bi_min (hK : X.K = C.K) (hc : X.calm = true) : CallR X (.builtin "min") (biR C .min) := by
  intro pins s σ H vs us Q I r h
  obtain ⟨Mk, ds, mo, st, rd, h⟩ := h
  rcases ds with _ | ⟨x, _ | ⟨y, _ | ⟨z, ds⟩⟩⟩
  · exact h.elim
  · obtain ⟨v, rfl, rx⟩ := rd.one
    cases x <;> first | exact h.elim | skip
    obtain ⟨a, xs, rfl, h1, r1⟩ := rx.list
    obtain ⟨ns, rfl, hne, h⟩ := h
    rw [r1.ints] at h1
    exact cr_min hc pins s σ H _ us Q I r ⟨a, ns, rfl, SqL.of h1, List.length_pos_iff.mpr hne, fun m a b => Res.int (h m a b) st⟩
  · obtain ⟨v, u, rfl, rx, ry⟩ := rd.two
    cases x <;> cases y <;> first | exact h.elim | skip
    obtain rfl := rx.int
    obtain rfl := ry.int
    rename_i i j
    refine call_min2 hc pins s σ H _ us Q I r ⟨_, _, rfl, ?_⟩
    have e : (if j < i then j else i) = min i j := by split <;> omega
    rw [e]; exact Res.int h st
  · cases x <;> cases y <;> exact h.elim
theorem bi_sorted : CallR X (.builtin "sorted") (biR C .sorted) := by
  intro pins s σ H vs us Q I r h
  obtain ⟨Mk, ds, mo, st, rd, h⟩ := h
  rcases ds with _ | ⟨x, _ | ⟨y, ds⟩⟩
  · exact h.elim
  · obtain ⟨v, rfl, rx⟩ := rd.one
    cases x <;> first | exact h.elim | skip
    obtain ⟨a, xs, rfl, h1, r1⟩ := rx.list
    obtain ⟨ns, rfl, h⟩ := h
    rw [r1.ints] at h1
    refine cr_sortedI pins s σ H _ us Q I r ⟨a, ns, rfl, SqL.of h1, fun ms p h2 h3 hp => ?_⟩
    obtain ⟨f1, f2, f3, f4⟩ := fresh_lst mo st hp (RpA.ofInts ms)
    exact h ms h2 h3 _ _ f1 f2 f3 fun _ => f4
  · cases x <;> exact h.elim
theorem bi_tuple (hK : X.K = C.K) : CallR X (.type "tuple") (biR C .tuple) := by
  intro pins s σ H vs us Q I r h
  obtain ⟨Mk, ds, mo, st, rd, h⟩ := h
  rcases ds with _ | ⟨x, _ | ⟨y, ds⟩⟩
  · exact h.elim
  · obtain ⟨v, rfl, rx⟩ := rd.one
    cases x <;> first | exact h.elim | skip
    · obtain ⟨a, xs, rfl, h1, r1⟩ := rx.list
      refine call_tuple_of pins s σ H _ us Q I r ⟨a, xs, rfl, .inl ⟨SqL.of h1, fun p hp => ?_⟩⟩
      obtain ⟨f1, f2, f3⟩ := fresh_tup mo st hp r1
      exact h _ _ f1 f2 f3 fun z => by cases z
    · obtain ⟨a, xs, rfl, h1, r1⟩ := rx.tuple
      exact call_tuple_of pins s σ H _ us Q I r ⟨a, xs, rfl, .inr ⟨by rw [hK]; exact mask_sub.sqT h1, h _ _ Ext.refl st (.tup h1 r1) fun z => by cases z⟩⟩
  · cases x <;> exact h.elim
theorem bi_list (hK : X.K = C.K) : CallR X (.type "list") (biR C .list) := by
  intro pins s σ H vs us Q I r h
  obtain ⟨Mk, ds, mo, st, rd, h⟩ := h
  rcases ds with _ | ⟨x, _ | ⟨y, ds⟩⟩
  · exact h.elim
  · obtain ⟨v, rfl, rx⟩ := rd.one
    cases x <;> first | exact h.elim | skip
    · obtain ⟨a, xs, rfl, h1, r1⟩ := rx.list
      refine call_list_of pins s σ H _ us Q I r ⟨a, xs, rfl, .inl (SqL.of h1), fun p hp => ?_⟩
      obtain ⟨f1, f2, f3, f4⟩ := fresh_lst mo st hp r1
      exact h _ _ f1 f2 f3 fun _ => f4
    · obtain ⟨a, xs, rfl, h1, r1⟩ := rx.tuple
      refine call_list_of pins s σ H _ us Q I r ⟨a, xs, rfl, .inr (by rw [hK]; exact mask_sub.sqT h1), fun p hp => ?_⟩
      obtain ⟨f1, f2, f3, f4⟩ := fresh_lst mo st hp r1
      exact h _ _ f1 f2 f3 fun _ => f4
  · cases x <;> exact h.elim
theorem bi_gcd : CallR X (.builtin "math.gcd") (biR C .gcd) := by
  intro pins s σ H vs us Q I r h
  obtain ⟨Mk, ds, mo, st, rd, h⟩ := h
  rcases ds with _ | ⟨x, _ | ⟨y, _ | ⟨z, ds⟩⟩⟩
  · exact h.elim
  · cases x <;> exact h.elim
  · obtain ⟨v, u, rfl, rx, ry⟩ := rd.two
    cases x <;> cases y <;> first | exact h.elim | skip
    obtain rfl := rx.int
    obtain rfl := ry.int
    exact cr_gcd pins s σ H _ us Q I r ⟨_, _, rfl, Res.int h st⟩
  · cases x <;> cases y <;> exact h.elim
/-- isinstance with a built-in class -/
theorem Rp.tyx (hK : X.K = C.K) {v : V} {d : D} (h : RpB C H Mk v d) (hd : isDict d = false) : ∃ t : String, TyX X.K H v (.type t) ∧ (t = "NoneType" ∧ d = .none ∨ t = "bool" ∧ (∃ b, d = .bool b) ∨ t = "int" ∧ (∃ i, d = .int i) ∨ t = "str" ∧ (∃ x, d = .str x) ∨ t = "list" ∧ (∃ xs, d = .list xs) ∨ t = "tuple" ∧ ∃ xs, d = .tuple xs) := by
  cases d with
  | none => cases h.non; exact ⟨_, .base .non, .inl ⟨rfl, rfl⟩⟩
  | bool b => cases h.bl; exact ⟨_, .base (.bl _), .inr (.inl ⟨rfl, _, rfl⟩)⟩
  | int b => cases h.int; exact ⟨_, .base (.int _), .inr (.inr (.inl ⟨rfl, _, rfl⟩))⟩
  | str b => cases h.str; exact ⟨_, .base (.str _), .inr (.inr (.inr (.inl ⟨rfl, _, rfl⟩)))⟩
  | list xs =>
    obtain ⟨a, ys, rfl, h1, _⟩ := h.list
    exact ⟨_, .base (.lst h1), .inr (.inr (.inr (.inr (.inl ⟨rfl, _, rfl⟩))))⟩
  | tuple xs =>
    obtain ⟨a, ys, rfl, h1, _⟩ := h.tuple
    refine ⟨"tuple", ?_, .inr (.inr (.inr (.inr (.inr ⟨rfl, _, rfl⟩))))⟩
    rcases mask_sub.sqT h1 with (h1 | ⟨o, h1⟩) | ⟨o, its, n, hk, hc, _⟩
    · exact .base (.tup h1)
    · exact .fTuple h1
    · exact .kTuple (by rw [hK]; exact hk) hc
  | dict kvs => cases hd
def isiTy : Nat → String
  | 0 => "list" | 1 => "tuple" | 2 => "str" | 3 => "bool" | 4 => "int" | _ => ""
theorem call_isiD (hK : X.K = C.K) (ty : Nat) (hty : ty < 5) : CallR X (.builtin "isinstance") fun vs H Q => ∃ Mk x v, StOk C H ∧ vs = [v, .ty (isiTy ty)] ∧ RpB C H Mk v x ∧ isDict x = false ∧ Q (.bl (isiD x ty)) H := by
  intro pins s σ H vs us Q I r h
  obtain ⟨Mk, x, v, st, rfl, rx, hd, h⟩ := h
  obtain ⟨t, tx, ht⟩ := Rp.tyx hK rx hd
  refine call_isi pins s σ H _ us Q I r ⟨v, .ty (isiTy ty), _, _, isiD x ty, rfl, .ty _, tx, kit_ty ?_, h⟩
  match ty, hty with
  | 0, _ => rcases ht with ⟨rfl, rfl⟩ | ⟨rfl, _, rfl⟩ | ⟨rfl, _, rfl⟩ | ⟨rfl, _, rfl⟩ | ⟨rfl, _, rfl⟩ | ⟨rfl, _, rfl⟩ <;> (simp only [isiTy, isiD]; decide +kernel)
  | 1, _ => rcases ht with ⟨rfl, rfl⟩ | ⟨rfl, _, rfl⟩ | ⟨rfl, _, rfl⟩ | ⟨rfl, _, rfl⟩ | ⟨rfl, _, rfl⟩ | ⟨rfl, _, rfl⟩ <;> (simp only [isiTy, isiD]; decide +kernel)
  | 2, _ => rcases ht with ⟨rfl, rfl⟩ | ⟨rfl, _, rfl⟩ | ⟨rfl, _, rfl⟩ | ⟨rfl, _, rfl⟩ | ⟨rfl, _, rfl⟩ | ⟨rfl, _, rfl⟩ <;> (simp only [isiTy, isiD]; decide +kernel)
  | 3, _ => rcases ht with ⟨rfl, rfl⟩ | ⟨rfl, _, rfl⟩ | ⟨rfl, _, rfl⟩ | ⟨rfl, _, rfl⟩ | ⟨rfl, _, rfl⟩ | ⟨rfl, _, rfl⟩ <;> (simp only [isiTy, isiD]; decide +kernel)
  | 4, _ => rcases ht with ⟨rfl, rfl⟩ | ⟨rfl, _, rfl⟩ | ⟨rfl, _, rfl⟩ | ⟨rfl, _, rfl⟩ | ⟨rfl, _, rfl⟩ | ⟨rfl, _, rfl⟩ <;> (simp only [isiTy, isiD]; decide +kernel)
end
end Mp

/-! Mini, part G: slots and targets. -/
namespace Mp
open PySem PySem.Spec PyProof.Rows L2

def CXn : CXT := fun _ _ _ _ _ _ => False
structure Cl (P : Program) (w : World) (K : PySem.W.Frag) (mg : Str → Option Value) (base : Heap) (k : Nat) (x : Str) (sp : Sp) : Prop where
  ex : ∃ (f : Addr) (fd : FuncData) (ps : List Str), FnOk P w K mg base CXn k f fd ps sp ∧ mg x = some (.ref f) ∧ PySem.W.keepIn K (.ref f) = true ∧ Binds K fd ps []
/-- a context in which the small meaning is to be kept -/
structure Gd (C : MC) (T : TB) (X : Cx) (N : List Str) (sc : Scope) (k : Nat) : Prop where
  eK : X.K = C.K
  calm : X.calm = true
  xe : X.xe = fun _ _ => False
  eN : X.N = N
  nd : N.Nodup
  es : ∀ x, X.env.scope.names.lookup x = sc.names.lookup x ∨ (sc.names.lookup x = some .free ∧ X.env.scope.names.lookup x = some .cell)
  room : Room k X.A
  fn : ∀ x, sc.names.lookup x = some .cell → X.fn x = true
  cal : ∀ (g : Nat) (nm : Str) (sp : Spc), T.gn[g]? = some nm → T.gs[g]? = some sp → Cl X.prog X.w X.K X.mg X.base k nm (liftSp C sp)
  con : ∀ (x : Str) (i : Int), (x, i) ∈ T.cn → ∃ t, X.mg x = some (.int i t)
  blt : ∀ x ∈ bltNames, X.mg x = none
  gcd : T.gcd = true → X.mg "gcd" = some (.builtin "math.gcd")
theorem relabel_lookup (scope : Scope) (env : Env) (x : Str) : (relabel scope env).names.lookup x = scope.names.lookup x ∨ (scope.names.lookup x = some .free ∧ (relabel scope env).names.lookup x = some .cell) := by
  show (List.lookup x (scope.names.map fun (n, k) => if (k == NameKind.free && env.scope.kind == .function && env.kindOf n == some .cell) then (n, NameKind.cell) else (n, k))) = _ ∨ (_ ∧ (List.lookup x (scope.names.map fun (n, k) => if (k == NameKind.free && env.scope.kind == .function && env.kindOf n == some .cell) then (n, NameKind.cell) else (n, k))) = _)
  induction scope.names with
  | nil => exact .inl rfl
  | cons q r ih =>
    obtain ⟨n, k⟩ := q
    simp only [List.map_cons]
    by_cases hx : (x == n) = true
    · split
      · rename_i hc
        simp only [Bool.and_eq_true, beq_iff_eq] at hc
        refine .inr ⟨?_, ?_⟩
        · simp only [List.lookup_cons, hx, hc.1.1]
        · simp only [List.lookup_cons, hx]
      · exact .inl (by simp only [List.lookup_cons, hx])
    · have hx' : (x == n) = false := by simpa using hx
      split
      · simpa only [List.lookup_cons, hx'] using ih
      · simpa only [List.lookup_cons, hx'] using ih
section
variable {C : MC} {T : TB} {X : Cx} {N : List Str} {sc : Scope} {k : Nat} {x : Str}
theorem Gd.vis (g : Gd C T X N sc k) (h : visB sc x = true) : Vis X.env.scope x := by
  unfold visB at h
  unfold Vis
  rcases g.es x with e | ⟨e, e'⟩
  · rw [e]
    split at h
    · exact .inl (by assumption)
    · exact .inr (.inl (by assumption))
    · exact .inr (.inr (by assumption))
    · cases h
  · exact .inr (.inl e')
theorem Gd.loc (g : Gd C T X N sc k) (h : locB sc x = true) : Loc X.env.scope x ∧ (X.fn x = true ∨ X.env.scope.names.lookup x = some .local) := by
  unfold locB at h
  unfold L2.Loc
  rcases g.es x with e | ⟨e, e'⟩
  · rw [e]
    split at h
    · exact ⟨.inl (by assumption), .inr (by assumption)⟩
    · exact ⟨.inr (by assumption), .inl (g.fn _ (by assumption))⟩
    · cases h
  · rw [e] at h; cases h
theorem Gd.gl (g : Gd C T X N sc k) (h : glbB sc x = true) : Gl X x := by
  show X.env.scope.names.lookup x = _
  unfold glbB at h
  rcases g.es x with e | ⟨e, e'⟩
  · rw [e]
    split at h
    · assumption
    · cases h
  · rw [e] at h; cases h
theorem Gd.hu (g : Gd C T X N sc k) : X.A.units + 65 < cLine := by have := g.room.un; omega
theorem Gd.never (g : Gd C T X N sc k) : PassesOwn (model X.prog X.w) X.A X.env X.xe := by rw [g.xe]; exact PassesOwn.never
theorem Gd.blk (g : Gd C T X N sc k) (s : Shared) (H : Hp) (scope : Scope) (Ce : Addr) (cl : List (Str × Addr)) (fp : List Addr) : Gd C T (X.blk s H scope (compEnvC scope cl Ce X.env) fp) N scope k where
  eK := g.eK
  calm := g.calm
  xe := rfl
  eN := g.eN
  nd := g.nd
  es := fun x => relabel_lookup scope X.env x
  room := g.room
  fn := fun x h => by
    show (scope.names.lookup x == some .cell) = true
    rw [h]; rfl
  cal := g.cal
  con := g.con
  blt := g.blt
  gcd := g.gcd
end

/-! ### slots -/
section
variable {C : MC} {S : Addr → Prop} {ρ : Ev} {σ : L2.St} {H : Hp} {v : V} {d : D} {i : Nat}
theorem Own.setSh {a : Addr} {c : Cell} (hc : ∀ d, c ≠ .ow d) (h : Own (ρ.set i c) (σ.set i (some v)) a) : Own ρ σ a := by
  obtain ⟨j, e, h1, h2⟩ := h
  by_cases hij : i = j
  · subst hij
    by_cases hl : i < ρ.length
    · rw [List.getElem?_set_self hl] at h1
      exact absurd (Option.some.inj h1) (hc e)
    · rw [List.getElem?_eq_none (by simpa using hl)] at h1; cases h1
  · rw [List.getElem?_set_ne hij] at h1 h2
    exact ⟨j, e, h1, h2⟩
theorem Ms.setSh {a : Addr} {c : Cell} (hc : ∀ d, c ≠ .ow d) (h : Ms S (ρ.set i c) (σ.set i (some v)) a) : Ms S ρ σ a := h.imp id (Own.setSh hc)
theorem sub_of (h : ∀ a, Ms S ρ' σ' a → Ms S ρ σ a) : Sub (mask H (Ms S ρ σ)) (mask H (Ms S ρ' σ')) := mask_mono fun a o h1 h2 => ⟨fun z => h1 (h a z), h2⟩
/-- a shared value is stored -/
theorem ER.setSh (r : ER C S ρ σ H) (h : Rp C (mask H (Ms S ρ σ)) v d) : ER C S (ρ.set i (.sh d)) (σ.set i (some v)) H where
  len := by rw [List.length_set, List.length_set]; exact r.len
  sh := fun j e q => by
    have s : Sub (mask H (Ms S ρ σ)) (mask H (Ms S (ρ.set i (.sh d)) (σ.set i (some v)))) := sub_of fun a => Ms.setSh fun d z => by cases z
    by_cases hij : i = j
    · subst hij
      by_cases hl : i < ρ.length
      · rw [List.getElem?_set_self hl] at q
        cases q
        exact ⟨v, List.getElem?_set_self (by rw [r.len]; exact hl), h.mono s⟩
      · rw [List.getElem?_eq_none (by simpa using hl)] at q; cases q
    · rw [List.getElem?_set_ne hij] at q
      obtain ⟨u, h1, h2⟩ := r.sh j e q
      exact ⟨u, by rw [List.getElem?_set_ne hij]; exact h1, h2.mono s⟩
  ow := fun j e q => by
    have s : Sub (mask H (Ms S ρ σ)) (mask H (Ms S (ρ.set i (.sh d)) (σ.set i (some v)))) := sub_of fun a => Ms.setSh fun d z => by cases z
    by_cases hij : i = j
    · subst hij
      by_cases hl : i < ρ.length
      · rw [List.getElem?_set_self hl] at q; cases q
      · rw [List.getElem?_eq_none (by simpa using hl)] at q; cases q
    · rw [List.getElem?_set_ne hij] at q
      obtain ⟨a, h1, h2, h3⟩ := r.ow j e q
      exact ⟨a, by rw [List.getElem?_set_ne hij]; exact h1, h2, h3.mono s fun o q => q⟩
  dj := fun j l e f a q1 q2 q3 q4 => by
    by_cases hij : i = j
    · subst hij
      by_cases hl : i < ρ.length
      · rw [List.getElem?_set_self hl] at q1; cases q1
      · rw [List.getElem?_eq_none (by simpa using hl)] at q1; cases q1
    · by_cases hil : i = l
      · subst hil
        by_cases hl : i < ρ.length
        · rw [List.getElem?_set_self hl] at q2; cases q2
        · rw [List.getElem?_eq_none (by simpa using hl)] at q2; cases q2
      · rw [List.getElem?_set_ne hij] at q1 q3
        rw [List.getElem?_set_ne hil] at q2 q4
        exact r.dj j l e f a q1 q2 q3 q4
  st := r.st
  mo := r.mo
/-- what the frame holds at most shrinks, all else stands -/
def FrO (C : MC) (ρ : Ev) (σ : L2.St) (H : Hp) (ρ' : Ev) (σ' : L2.St) (H' : Hp) : Prop := ∀ a o, a ≠ C.sA → a ≠ C.cA → ¬ Own ρ σ a → H a = some o → H' a = some o ∧ ¬ Own ρ' σ' a
theorem FrO.refl : FrO C ρ σ H ρ σ H := fun _ _ _ _ h e => ⟨e, h⟩
theorem FrO.trans {ρ1 ρ2 : Ev} {σ1 σ2 : L2.St} {H1 H2 : Hp} (h : FrO C ρ σ H ρ1 σ1 H1) (h' : FrO C ρ1 σ1 H1 ρ2 σ2 H2) : FrO C ρ σ H ρ2 σ2 H2 := fun a o n1 n2 h0 e =>
  let ⟨h1, h2⟩ := h a o n1 n2 h0 e
  h' a o n1 n2 h2 h1
theorem FrO.ext {H' : Hp} (e : Ext C H H') : FrO C ρ σ H ρ σ H' := fun a o n1 n2 h q => ⟨e a o n1 n2 q, h⟩
theorem FrO.shr {ρ' : Ev} {σ' : L2.St} (h : ∀ a, Own ρ' σ' a → Own ρ σ a) : FrO C ρ σ H ρ' σ' H := fun a o _ _ n q => ⟨q, fun z => n (h a z)⟩
/-- what was frozen ahead is frozen behind -/
theorem FrO.sub {ρ' : Ev} {σ' : L2.St} {H' : Hp} (f : FrO C ρ σ H ρ' σ' H') (m : MOk C S H) : Sub (mask H (Ms S ρ σ)) (mask H' (Ms S ρ' σ')) := mask_mono fun a o h1 h2 => by
  obtain ⟨q1, q2⟩ := f a o (fun z => h1 (.inl (by rw [z]; exact m.s))) (fun z => h1 (.inl (by rw [z]; exact m.c))) (fun z => h1 (.inr z)) h2
  exact ⟨fun z => z.elim (fun z => h1 (.inl z)) q2, q1⟩

/-! ### targets -/
/-- outside of the target's own slots nothing is turned -/
def Tg (m : M) (ρ : Ev) (σ : L2.St) (ρ' : Ev) (σ' : L2.St) : Prop := ρ'.length = ρ.length ∧ ∀ own, tgIn m own = true → ∀ j, j ∉ own → ρ'[j]? = ρ[j]? ∧ σ'[j]? = σ[j]?
def liftG (C : MC) (m : M) : TG := fun v σ H Q => ∃ S ρ d, ER C S ρ σ H ∧ Rp C (mask H (Ms S ρ σ)) v d ∧ wG m d ρ fun ρ' => ∀ σ', ER C S ρ' σ' H → (∀ a, Own ρ' σ' a → Own ρ σ a) → Tg m ρ σ ρ' σ' → Q σ' H
def liftGs (C : MC) (m : M) : TGs := fun vs σ H Q => ∃ S ρ ds, ER C S ρ σ H ∧ RpA C (mask H (Ms S ρ σ)) vs ds ∧ wGs m ds ρ fun ρ' => ∀ σ', ER C S ρ' σ' H → (∀ a, Own ρ' σ' a → Own ρ σ a) → Tg m ρ σ ρ' σ' → Q σ' H
theorem PG.imp {X : Cx} {e : Expr} {t t' : TG} (h : PG X e t) (w : ∀ v σ H Q, t' v σ H Q → t v σ H Q) : PG X e t' := ⟨fun pins s σ H v u Q I r q => h.run pins s σ H v u Q I r (w v σ H Q q)⟩
theorem PGs.imp {X : Cx} {e : List Expr} {t t' : TGs} (h : PGs X e t) (w : ∀ v σ H Q, t' v σ H Q → t v σ H Q) : PGs X e t' := ⟨fun pins s σ H v u Q I r q => h.run pins s σ H v u Q I r (w v σ H Q q)⟩
theorem PG.or {X : Cx} {e : Expr} {t t' : TG} (h : PG X e t) (h' : PG X e t') : PG X e fun v σ H Q => t v σ H Q ∨ t' v σ H Q := ⟨fun pins s σ H v u Q I r q => q.elim (h.run pins s σ H v u Q I r) (h'.run pins s σ H v u Q I r)⟩
theorem assignEach_cons {e : Expr} {es : List Expr} {env : Env} (h : notStar e = true) : (assignEach (e :: es) env).map (·.2) = assign e env :: (assignEach es env).map (·.2) ∧ (assignEach (e :: es) env).map (·.1) = false :: (assignEach es env).map (·.1) := by
  cases e <;> first | exact ⟨rfl, rfl⟩ | cases h
theorem assignEach_plain {env : Env} : ∀ {es : List Expr}, (∀ e ∈ es, notStar e = true) → (assignEach es env).length = es.length ∧ (assignEach es env).map (·.1) = es.map fun _ => false
  | [], _ => ⟨rfl, rfl⟩
  | e :: es, h => by
    have h1 := (assignEach_cons (es := es) (env := env) (h e List.mem_cons_self)).2
    obtain ⟨h2, h3⟩ := assignEach_plain (env := env) (es := es) fun e he => h e (List.mem_cons_of_mem _ he)
    constructor
    · have := congrArg List.length h1
      simp only [List.length_map, List.length_cons] at this
      rw [this, h2]; rfl
    · rw [h1, h3]; rfl
theorem find_none {α : Type} : ∀ {l : List (Bool × α)}, (∀ b ∈ l.map (·.1), b = false) → l.findIdx? (·.1) = none
  | [], _ => rfl
  | (b, x) :: l, h => by
    have hb : b = false := h b (by simp)
    subst hb
    rw [List.findIdx?_cons]
    have := find_none (l := l) fun b hb => h b (by simp only [List.map_cons, List.mem_cons]; exact .inr hb)
    simp [this]
end
section
variable {C : MC} {T : TB} {X : Cx} {N : List Str} {sc : Scope} {k : Nat}
theorem mtGs_star : ∀ {m : M} {xs : List Expr}, mtGs N m sc xs = true → (∀ e ∈ xs, notStar e = true) := fun {m} => by
  induction m with
  | nil => intro xs h; cases xs <;> simp [mtGs] at h ⊢
  | cons t ts _ ih =>
    intro xs h
    cases xs with
    | nil => simp [mtGs] at h
    | cons x xs =>
      simp only [mtGs, Bool.and_eq_true] at h
      intro e he
      rcases List.mem_cons.mp he with rfl | he
      · exact h.1.1
      · exact ih h.2 e he
  | _ => intro xs h; simp [mtGs] at h
theorem Tg.of_set {i : Nat} {ρ : Ev} {σ : L2.St} {c : Cell} {v : Option V} : Tg (.var i) ρ σ (ρ.set i c) (σ.set i v) := ⟨List.length_set, fun own h j hj => by
  simp only [tgIn, List.contains_eq_mem, decide_eq_true_eq] at h
  have : i ≠ j := fun e => hj (by rw [← e]; exact h)
  exact ⟨List.getElem?_set_ne this, List.getElem?_set_ne this⟩⟩
theorem tg_sound (g : Gd C T X N sc k) (m : M) : (∀ {x : Expr}, mtG N m sc x = true → PG X x (liftG C m)) ∧ (∀ {xs : List Expr}, mtGs N m sc xs = true → PGs X xs (liftGs C m)) := by
  induction m with
  | var i =>
    refine ⟨fun {x} h => ?_, fun {xs} h => by cases xs <;> simp [mtGs] at h⟩
    cases x <;> simp only [mtG, Bool.and_eq_true, decide_eq_true_eq] at h <;> try (cases h; done)
    obtain ⟨hl, hf⟩ := g.loc h.2
    refine PG.imp (pg_name (i := i) (by rw [g.eN]; exact g.nd) (by rw [g.eN]; exact h.1) hl hf) ?_
    rintro v σ H Q ⟨S, ρ, d, er, rp, w⟩
    simp only [wG] at w
    exact w _ (er.setSh rp) (fun a => Own.setSh fun d z => by cases z) Tg.of_set
  | nil =>
    refine ⟨fun {x} h => by cases x <;> simp [mtG] at h, fun {xs} h => ?_⟩
    cases xs <;> simp only [mtGs] at h <;> try (cases h; done)
    refine PGs.imp pgs_nil ?_
    rintro vs σ H Q ⟨S, ρ, ds, er, rp, w⟩
    cases ds <;> simp only [wGs] at w
    cases rp
    exact ⟨rfl, w σ er (fun _ z => z) ⟨rfl, fun _ _ _ _ => ⟨rfl, rfl⟩⟩⟩
  | cons t ts iht ihts =>
    refine ⟨fun {x} h => by cases x <;> simp [mtG] at h, fun {xs} h => ?_⟩
    cases xs with
    | nil => simp [mtGs] at h
    | cons x xs =>
      simp only [mtGs, Bool.and_eq_true] at h
      refine PGs.imp (pgs_cons (iht.1 h.1.2) (ihts.2 h.2) (assignEach_cons h.1.1).1) ?_
      rintro vs σ H Q ⟨S, ρ, ds, er, rp, w⟩
      cases ds with
      | nil => simp only [wGs] at w
      | cons d ds =>
        simp only [wGs] at w
        cases rp with
        | cons r rr =>
          refine ⟨_, _, rfl, S, ρ, d, er, r, wG_mono w fun ρ1 w σ1 er1 s1 t1 => ?_⟩
          refine ⟨S, ρ1, ds, er1, rr.mono (sub_of fun a z => z.imp id (s1 a)), (wG_mono' ts).2 w fun ρ2 w σ2 er2 s2 t2 => w σ2 er2 (fun a z => s1 a (s2 a z)) ⟨t2.1.trans t1.1, fun own ho j hj => ?_⟩⟩
          simp only [tgIn, Bool.and_eq_true] at ho
          obtain ⟨a1, a2⟩ := t1.2 own ho.1 j hj
          obtain ⟨b1, b2⟩ := t2.2 own ho.2 j hj
          exact ⟨b1.trans a1, b2.trans a2⟩
  | tup ts ih =>
    refine ⟨fun {x} h => ?_, fun {xs} h => by cases xs <;> simp [mtGs] at h⟩
    cases x <;> simp only [mtG] at h <;> try (cases h; done)
    rename_i xs kk pos
    obtain ⟨hl, hm⟩ := assignEach_plain (env := X.env) (mtGs_star h)
    have hst : (assignEach xs X.env).findIdx? (·.1) = none := find_none fun b hb => by rw [hm] at hb; simp at hb; exact hb.2
    refine PG.imp (PG.or (pg_tup g.calm (ih.2 h) rfl hst) (pg_lst g.calm (ih.2 h) rfl hst)) ?_
    rintro v σ H Q ⟨S, ρ, d, er, rp, w⟩
    have lenD : ∀ {ds : List D} {Q : Ev → Prop}, wGs ts ds ρ Q → ds.length = xs.length := by
      have : ∀ {m : M} {xs : List Expr} {ds : List D} {ρ : Ev} {Q : Ev → Prop}, mtGs N m sc xs = true → wGs m ds ρ Q → ds.length = xs.length := by
        intro m
        induction m with
        | nil => intro xs ds ρ Q h w; cases xs <;> cases ds <;> simp [mtGs, wGs] at h w ⊢
        | cons t ts _ ih2 =>
          intro xs ds ρ Q h w
          cases xs with
          | nil => simp [mtGs] at h
          | cons x xs =>
            cases ds with
            | nil => simp only [wGs] at w
            | cons d ds =>
              simp only [mtGs, Bool.and_eq_true] at h
              simp only [wGs] at w
              have q : ∀ {m : M} {d : D} {ρ : Ev} {Q : Ev → Prop}, wG m d ρ Q → ∃ ρ', Q ρ' := by
                intro m
                have : ∀ m : M, (∀ {d : D} {ρ : Ev} {Q : Ev → Prop}, wG m d ρ Q → ∃ ρ', Q ρ') ∧ (∀ {ds : List D} {ρ : Ev} {Q : Ev → Prop}, wGs m ds ρ Q → ∃ ρ', Q ρ') := by
                  intro m
                  induction m with
                  | var i => exact ⟨fun h => by simp only [wG] at h; exact ⟨_, h⟩, fun h => by simp only [wGs] at h⟩
                  | tup ts ih => exact ⟨fun {d} _ _ h => by cases d <;> simp only [wG] at h <;> exact ih.2 h, fun h => by simp only [wGs] at h⟩
                  | nil => exact ⟨fun h => by simp only [wG] at h, fun {ds} _ _ h => by cases ds <;> simp only [wGs] at h; exact ⟨_, h⟩⟩
                  | cons t ts ih1 ih2 => exact ⟨fun h => by simp only [wG] at h, fun {ds} _ _ h => by
                      cases ds <;> simp only [wGs] at h
                      obtain ⟨ρ1, h⟩ := ih1.1 h
                      exact ih2.2 h⟩
                  | _ => exact ⟨fun h => by simp only [wG] at h, fun h => by simp only [wGs] at h⟩
                exact fun {d ρ Q} h => (this m).1 h
              obtain ⟨ρ1, w⟩ := q w
              simp [ih2 h.2 w]
        | _ => intro xs ds ρ Q h w; simp [mtGs] at h
      exact fun {ds Q} w => this h w
    cases d <;> simp only [wG] at w
    · right
      cases rp with
      | lst e r =>
        refine ⟨_, _, rfl, SqL.of (mask_some.mp e).2, by rw [r.length, lenD w, hl], S, ρ, _, er, r, (wG_mono' ts).2 w fun ρ1 w σ1 er1 s1 t1 => w σ1 er1 s1 ⟨t1.1, fun own ho => t1.2 own (by simpa [tgIn] using ho)⟩⟩
    · left
      cases rp with
      | tup e r =>
        refine ⟨_, _, rfl, by rw [g.eK]; exact mask_sub.sqT e, by rw [r.length, lenD w, hl], S, ρ, _, er, r, (wG_mono' ts).2 w fun ρ1 w σ1 er1 s1 t1 => w σ1 er1 s1 ⟨t1.1, fun own ho => t1.2 own (by simpa [tgIn] using ho)⟩⟩
  | _ => exact ⟨fun {x} h => by cases x <;> simp [mtG] at h, fun {xs} h => by cases xs <;> simp [mtGs] at h⟩
end
end Mp

/-! Mini, part H: the expressions, one by one. -/
namespace Mp
open PySem PySem.Spec PyProof.Rows L2

theorem PE.imp {X : Cx} {e : Expr} {t t' : TE} (h : PE X e t) (w : ∀ σ H Q, t' σ H Q → t σ H Q) : PE X e t' := ⟨fun pins s σ H Q I q => h.run pins s σ H Q I (w σ H Q q)⟩
theorem PT.imp {X : Cx} {e : Expr} {t t' : TT} (h : PT X e t) (w : ∀ σ H Q, t' σ H Q → t σ H Q) : PT X e t' := ⟨fun pins s σ H Q I q => h.run pins s σ H Q I (w σ H Q q)⟩
theorem PW.imp {X : Cx} {e : Expr} {t t' : TT} (h : PW X e t) (w : ∀ σ H Q, t' σ H Q → t σ H Q) : PW X e t' := ⟨fun wh pins s σ H Q I q => h.run wh pins s σ H Q I (w σ H Q q)⟩
theorem PTs.imp {X : Cx} {e : List Expr} {t t' : TT} (h : PTs X e t) (w : ∀ σ H Q, t' σ H Q → t σ H Q) : PTs X e t' := ⟨fun pins s σ H Q I q => h.run pins s σ H Q I (w σ H Q q)⟩
theorem PA.imp {X : Cx} {e : List Expr} {t t' : TA} (h : PA X e t) (w : ∀ σ H Q, t' σ H Q → t σ H Q) : PA X e t' := ⟨fun pos pins s σ H Q I q => h.run pos pins s σ H Q I (w σ H Q q)⟩
theorem PI.imp {X : Cx} {tg e : Expr} {t t' : TI} (h : PI X tg e t) (w : ∀ σ H Q, t' σ H Q → t σ H Q) : PI X tg e t' := ⟨fun pins s σ H Q I q => h.run pins s σ H Q I (w σ H Q q)⟩

theorem star_cons {e : Expr} {es : List Expr} {env : Env} (h : notStar e = true) : starEach (e :: es) env = (false, eval e env) :: starEach es env := by
  cases e <;> first | rfl | cases h
section
variable {C : MC} {T : TB} {X : Cx} {N : List Str} {sc : Scope} {k : Nat}
theorem mtA_star : ∀ {m : M} {xs : List Expr}, mtA T N m sc xs = true → (∀ e ∈ xs, notStar e = true) := fun {m} => by
  induction m with
  | nil => intro xs h; cases xs <;> simp [mtA] at h ⊢
  | cons t ts _ ih =>
    intro xs h
    cases xs with
    | nil => simp [mtA] at h
    | cons x xs =>
      simp only [mtA, Bool.and_eq_true] at h
      intro e he
      rcases List.mem_cons.mp he with rfl | he
      · exact h.1.1
      · exact ih h.2 e he
  | _ => intro xs h; simp [mtA] at h
theorem star_any {pos : Pos} {env : Env} : ∀ {es : List Expr}, (∀ e ∈ es, notStar e = true) → (backTo pos (starEach es env)).any (·.1) = false
  | [], _ => rfl
  | e :: es, h => by
    have ih := star_any (pos := pos) (env := env) (es := es) fun e he => h e (List.mem_cons_of_mem _ he)
    unfold backTo at ih ⊢
    rw [star_cons (h e List.mem_cons_self)]
    simpa using ih

def liftP (C : MC) (Γ : List Spc) (m : M) : L2.St → Hp → (Option Int → Hp → Prop) → Prop := fun σ H Q => ∃ S ρ, ER C S ρ σ H ∧ wP Γ m ρ fun o => ∀ H', Ext C H H' → StOk C H' → Q o H'
structure Snd (C : MC) (T : TB) (m : M) : Prop where
  e : ∀ {X : Cx} {N : List Str} {sc : Scope} {k : Nat} {x : Expr}, Gd C T X N sc k → mtE T N m sc x = true → PE X x (liftE C T.gs m)
  p : ∀ {X : Cx} {N : List Str} {sc : Scope} {k : Nat} {x : Option Expr}, Gd C T X N sc k → mtP T N m sc x = true → PO X x (liftP C T.gs m)
  a : ∀ {X : Cx} {N : List Str} {sc : Scope} {k : Nat} {x : List Expr}, Gd C T X N sc k → mtA T N m sc x = true → PA X x (liftA C T.gs m)
  t : ∀ {X : Cx} {N : List Str} {sc : Scope} {k : Nat} {x : Expr}, Gd C T X N sc k → mtT T N m sc x = true → PT X x (liftT C T.gs m)
  ts : ∀ {X : Cx} {N : List Str} {sc : Scope} {k : Nat} {x : List Expr}, Gd C T X N sc k → mtTs T N m sc x = true → PTs X x (liftTs C T.gs m)
  i : ∀ {X : Cx} {N : List Str} {sc : Scope} {k : Nat} {tg x : Expr}, Gd C T X N sc k → mtI T N m sc tg x = true → PI X tg x (liftI C T.gs m)

theorem snd_const {m : M} {v : V} {d : D} {x : Expr} (h : PE X x (tC v)) (hw : ∀ ρ Q, wE T.gs m ρ Q → Q d) (hr : ∀ H, Rp C H v d) (hl : isL d = false) : PE X x (liftE C T.gs m) :=
  PE.imp h fun σ H Q ⟨S, ρ, er, w⟩ => hw _ _ w v H Ext.refl er.st (.of (hr _) fun _ z => by rw [hl] at z; cases z)

/-! ### two operands -/
theorem RR.bx {m : M} {H H1 H' : Hp} {Mk : Addr → Prop} {v : V} {d : D} (r : RR C m H H1 Mk v d) (mo : MOk C Mk H1) (e : Ext C H1 H') : RpB C H' Mk v d := r.b.ext mo e
theorem snd_bin {op : BOp} {a b : M} {x y : Expr} {pos : Pos} (g : Gd C T X N sc k) (ha : PE X x (liftE C T.gs a)) (hb : PE X y (liftE C T.gs b)) : PE X (.BinOp x (opOf op) y pos) (liftE C T.gs (.bin op a b)) := by
  refine PE.imp (pe_op (op_bin g.eK op) ha hb) ?_
  rintro σ H Q ⟨S, ρ, er, w⟩
  simp only [wE] at w
  refine ⟨S, ρ, er, wE_mono w fun d w v H1 e1 s1 r1 => ⟨S, ρ, er.ext e1 s1, wE_mono w fun d2 w u H2 e2 s2 r2 => ?_⟩⟩
  have er2 := (er.ext e1 s1).ext e2 s2
  refine ⟨Ms S ρ σ, d, d2, er2.mok, s2, r1.bx (er.ext e1 s1).mok e2, r2.b, binW_mono w fun d3 w v3 H3 e3 s3 r3 f3 => w v3 H3 (e1.trans (e2.trans e3)) s3 (.of r3 fun _ hl => ?_)⟩
  exact (f3 hl).back (e1.trans e2) s2
theorem snd_cmpE {op : COp} {a b : M} {x y : Expr} {pos : Pos} (g : Gd C T X N sc k) (hn : notSet y = true) (ha : PE X x (liftE C T.gs a)) (hb : PE X y (liftE C T.gs b)) : PE X (.Compare x [copOf op] [y] pos) (liftE C T.gs (.cmp op a b)) := by
  refine PE.imp (pe_cmpR (op_cmpD g.eK g.hu op) ha hb (by cases y <;> first | rfl | cases hn)) ?_
  rintro σ H Q ⟨S, ρ, er, w⟩
  simp only [wE] at w
  refine ⟨S, ρ, er, wE_mono w fun d w v H1 e1 s1 r1 => ⟨S, ρ, er.ext e1 s1, wE_mono w fun d2 w u H2 e2 s2 r2 => ?_⟩⟩
  exact ⟨Ms S ρ σ, d, d2, r1.bx (er.ext e1 s1).mok e2, r2.b, cmpW_mono w fun k w => w _ H2 (e1.trans e2) s2 (.of (.bl k) fun _ z => by cases z)⟩
theorem snd_cmpT {op : COp} {a b : M} {x y : Expr} {pos : Pos} (g : Gd C T X N sc k) (hn : notSet y = true) (ha : PE X x (liftE C T.gs a)) (hb : PE X y (liftE C T.gs b)) : PT X (.Compare x [copOf op] [y] pos) (liftT C T.gs (.cmpT op a b)) := by
  refine PT.imp (pt_cmpR (op_cmpD g.eK g.hu op) ha hb (by cases y <;> first | rfl | cases hn)) ?_
  rintro σ H Q ⟨S, ρ, er, w⟩
  simp only [wT] at w
  refine ⟨S, ρ, er, wE_mono w fun d w v H1 e1 s1 r1 => ⟨S, ρ, er.ext e1 s1, wE_mono w fun d2 w u H2 e2 s2 r2 => ?_⟩⟩
  exact ⟨Ms S ρ σ, d, d2, r1.bx (er.ext e1 s1).mok e2, r2.b, cmpW_mono w fun k w => ⟨k, rfl, w H2 (e1.trans e2) s2⟩⟩
theorem marks_of {o p : CmpOp} {y z : Expr} (hn : notSet y = true) (hz : notSet z = true) : lastMarks [o, p] [y, z] = false := by
  cases z <;> first | rfl | cases hz
theorem snd_chainE {o1 o2 : COp} {a b c : M} {x y z : Expr} {pos : Pos} (g : Gd C T X N sc k) (hn : notSet y = true) (hz : notSet z = true) (ha : PE X x (liftE C T.gs a)) (hb : PE X y (liftE C T.gs b)) (hc : PE X z (liftE C T.gs c)) :
    PE X (.Compare x [copOf o1, copOf o2] [y, z] pos) (liftE C T.gs (.chain o1 o2 a b c)) := by
  refine PE.imp (pe_chain (op_cmpD g.eK g.hu o1) (op_cmpD g.eK g.hu o2) ha hb hc (marks_of hn hz)) ?_
  rintro σ H Q ⟨S, ρ, er, w⟩
  simp only [wE] at w
  refine ⟨S, ρ, er, wE_mono w fun d w v H1 e1 s1 r1 => ⟨S, ρ, er.ext e1 s1, wE_mono w fun d2 w u H2 e2 s2 r2 => ?_⟩⟩
  refine ⟨Ms S ρ σ, d, d2, r1.bx (er.ext e1 s1).mok e2, r2.b, cmpW_mono w fun k w => ⟨k, rfl, ?_⟩⟩
  have er2 := (er.ext e1 s1).ext e2 s2
  cases k with
  | false => exact w _ H2 (e1.trans e2) s2 (.of (.bl _) fun _ z => by cases z)
  | true =>
    exact ⟨S, ρ, er2, wE_mono w fun d3 w v3 H3 e3 s3 r3 => ⟨Ms S ρ σ, d2, d3, r2.bx er2.mok e3, r3.b, cmpW_mono w fun k w => w _ H3 (e1.trans (e2.trans e3)) s3 (.of (.bl _) fun _ z => by cases z)⟩⟩
theorem snd_chainT {o1 o2 : COp} {a b c : M} {x y z : Expr} {pos : Pos} (g : Gd C T X N sc k) (hn : notSet y = true) (hz : notSet z = true) (ha : PE X x (liftE C T.gs a)) (hb : PE X y (liftE C T.gs b)) (hc : PE X z (liftE C T.gs c)) :
    PT X (.Compare x [copOf o1, copOf o2] [y, z] pos) (liftT C T.gs (.chainT o1 o2 a b c)) := by
  refine PT.imp (pt_chain (op_cmpD g.eK g.hu o1) (op_cmpD g.eK g.hu o2) ha hb hc (marks_of hn hz)) ?_
  rintro σ H Q ⟨S, ρ, er, w⟩
  simp only [wT] at w
  refine ⟨S, ρ, er, wE_mono w fun d w v H1 e1 s1 r1 => ⟨S, ρ, er.ext e1 s1, wE_mono w fun d2 w u H2 e2 s2 r2 => ?_⟩⟩
  refine ⟨Ms S ρ σ, d, d2, r1.bx (er.ext e1 s1).mok e2, r2.b, cmpW_mono w fun k w => ⟨k, rfl, ?_⟩⟩
  have er2 := (er.ext e1 s1).ext e2 s2
  cases k with
  | false => exact ⟨false, rfl, w H2 (e1.trans e2) s2⟩
  | true =>
    exact ⟨S, ρ, er2, wE_mono w fun d3 w v3 H3 e3 s3 r3 => ⟨Ms S ρ σ, d2, d3, r2.bx er2.mok e3, r3.b, cmpW_mono w fun k w => ⟨k, rfl, w H3 (e1.trans (e2.trans e3)) s3⟩⟩⟩

/-! ### items, slices -/
theorem atI_rp {H : Hp} {xs : List V} {ds : List D} {i : Int} {d : D} (r : RpA C H xs ds) (h : atI ds i = some d) : ∃ v, atI xs i = some v ∧ Rp C H v d := by
  unfold atI at h ⊢
  rw [r.length]
  cases q : ixN ds.length i with
  | none => rw [q] at h; cases h
  | some j =>
    rw [q] at h
    exact r.get h
def ixR (C : MC) : R2 := fun v u H Q => ∃ Mk x y, RpB C H Mk v x ∧ RpB C H Mk u y ∧ ixW x y fun d => ∀ w, Rp C (mask H Mk) w d → Q w H
theorem ix_all (hK : X.K = C.K) : IxR X (ixR C) := by
  intro value slice pins s σ H v u vv uu Q I rv ru h hs
  obtain ⟨Mk, x, y, rx, ry, h⟩ := h
  cases x <;> cases y <;> first
    | exact h.elim
    | skip
  · obtain ⟨a, xs, rfl, h1, r1⟩ := rx.list
    obtain rfl := ry.int
    obtain ⟨d, e, h⟩ := h
    obtain ⟨w, e2, rw'⟩ := atI_rp r1 e
    exact ix_list value slice pins s σ H _ _ vv uu Q I rv ru ⟨a, xs, _, w, rfl, rfl, SqL.of h1, e2, h w rw'⟩ hs
  · obtain ⟨a, xs, rfl, h1, r1⟩ := rx.tuple
    obtain rfl := ry.int
    obtain ⟨d, e, h⟩ := h
    obtain ⟨w, e2, rw'⟩ := atI_rp r1 e
    exact ix_tup value slice pins s σ H _ _ vv uu Q I rv ru ⟨a, xs, _, w, rfl, rfl, by rw [hK]; exact mask_sub.sqT h1, e2, h w rw'⟩ hs
theorem plainIx_of {b : Expr} (h : notSlice b = true) : PlainIx b := by
  intro o i
  cases b <;> first | rfl | cases h
theorem snd_ix {a b : M} {x y : Expr} {pos : Pos} (g : Gd C T X N sc k) (hn : notSlice y = true) (ha : PE X x (liftE C T.gs a)) (hb : PE X y (liftE C T.gs b)) : PE X (.Subscript x y pos) (liftE C T.gs (.ix a b)) := by
  refine PE.imp (pe_ix (ix_all g.eK) ha hb (plainIx_of hn)) ?_
  rintro σ H Q ⟨S, ρ, er, w⟩
  simp only [wE] at w
  refine ⟨S, ρ, er, wE_mono w fun d w v H1 e1 s1 r1 => ⟨S, ρ, er.ext e1 s1, wE_mono w fun d2 w u H2 e2 s2 r2 => ?_⟩⟩
  exact ⟨Ms S ρ σ, d, d2, r1.bx (er.ext e1 s1).mok e2, r2.b, ixW_mono w fun d3 w v3 r3 => w v3 H2 (e1.trans e2) s2 (.of r3 fun z => by cases z)⟩
theorem cut_rp {H : Hp} {xs : List V} {ds : List D} (lo hi : Option Int) (r : RpA C H xs ds) : RpA C H (cutV xs lo hi) (cutD ds lo hi) := by
  unfold cutV cutD
  rw [r.length]
  exact (r.drop _).take _
def slR (C : MC) : V → Option Int → Option Int → Hp → VK → Prop := fun v lo hi H Q => ∃ Mk x, MOk C Mk H ∧ StOk C H ∧ RpB C H Mk v x ∧ slW x lo hi (Res C Mk Q H)
theorem sl_all (hK : X.K = C.K) : L2.SlR X (slR C) := by
  intro pins s σ H v vv vl vu lo hi sl Q I rv hs pl pu h
  obtain ⟨Mk, x, mo, st, rx, h⟩ := h
  cases x <;> first
    | exact h.elim
    | skip
  · obtain ⟨a, xs, rfl, h1, r1⟩ := rx.list
    refine sl_list pins s σ H _ vv vl vu lo hi sl Q I rv hs pl pu ⟨a, xs, rfl, SqL.of h1, fun p hp => ?_⟩
    obtain ⟨f1, f2, f3, f4⟩ := fresh_lst mo st hp (cut_rp lo hi r1)
    exact h _ _ f1 f2 f3 fun _ => f4
  · obtain ⟨a, xs, rfl, h1, r1⟩ := rx.tuple
    have r2 := cut_rp lo hi r1
    refine sl_tupA pins s σ H _ vv vl vu lo hi sl Q I rv hs pl pu ⟨a, xs, rfl, by rw [hK]; exact mask_sub.sqT h1, fun hw => ?_, fun hw p hp => ?_⟩
    · have e : cutV xs lo hi = xs := by unfold cutV; rw [hw.1, hw.2]; simp
      rw [e] at r2
      exact h _ _ Ext.refl st (.tup h1 r2) fun z => by cases z
    · obtain ⟨f1, f2, f3⟩ := fresh_tup mo st hp r2
      exact h _ _ f1 f2 f3 fun z => by cases z
theorem snd_slice {a lo hi : M} {x : Expr} {l u : Option Expr} {p2 pos : Pos} (g : Gd C T X N sc k) (ha : PE X x (liftE C T.gs a)) (hl : PO X l (liftP C T.gs lo)) (hu : PO X u (liftP C T.gs hi)) : PE X (.Subscript x (.Slice l u none p2) pos) (liftE C T.gs (.slice a lo hi)) := by
  refine PE.imp (pe_slice (sl_all g.eK) ha hl hu) ?_
  rintro σ H Q ⟨S, ρ, er, w⟩
  simp only [wE] at w
  refine ⟨S, ρ, er, wE_mono w fun d w v H1 e1 s1 r1 => ⟨S, ρ, er.ext e1 s1, wP_mono w fun d2 w H2 e2 s2 => ⟨S, ρ, (er.ext e1 s1).ext e2 s2, wP_mono w fun d3 w H3 e3 s3 => ?_⟩⟩⟩
  have er3 := ((er.ext e1 s1).ext e2 s2).ext e3 s3
  exact ⟨Ms S ρ σ, d, er3.mok, s3, r1.bx (er.ext e1 s1).mok (e2.trans e3), slW_mono w fun d4 w v4 H4 e4 s4 r4 f4 => w v4 H4 (e1.trans (e2.trans (e3.trans e4))) s4 (.of r4 fun _ hl => (f4 hl).back (e1.trans (e2.trans e3)) s3)⟩
theorem snd_rev {a : M} {x : Expr} {kk : Nat} {p1 p2 p3 pos : Pos} (g : Gd C T X N sc k) (ha : PE X x (liftE C T.gs a)) : PE X (.Subscript x (.Slice none none (some (.UnaryOp .USub (.Constant (.int 1) kk p1) p2)) p3) pos) (liftE C T.gs (.rev a)) := by
  refine PE.imp (pe_revL ha) ?_
  rintro σ H Q ⟨S, ρ, er, w⟩
  simp only [wE] at w
  refine ⟨S, ρ, er, wE_mono w fun d w v H1 e1 s1 r1 => ?_⟩
  cases d <;> simp only [revW] at w
  obtain ⟨b, xs, rfl, h1, q1⟩ := r1.b.list
  refine ⟨b, xs, rfl, SqL.of h1, fun p hp => ?_⟩
  obtain ⟨f1, f2, f3, f4⟩ := fresh_lst (er.ext e1 s1).mok s1 hp q1.reverse
  exact w _ _ (e1.trans f1) f2 (.of f3 fun _ _ => f4.back e1 s1)

/-! ### calls -/
theorem snd_call {gi : Nat} {as : M} {x : Str} {p pos : Pos} {e : Expr} {es : List Expr} (g : Gd C T X N sc k) (hs : strict as = true) (hg : T.gn[gi]? = some x) (hx : glbB sc x = true) (hd : notDbg x = true) (hm : mtA T N as sc (e :: es) = true) (ha : PA X (e :: es) (liftA C T.gs as)) :
    PE X (.Call (.Name x p) (e :: es) [] pos) (liftE C T.gs (.call gi as)) := by
  have hst := mtA_star hm
  unfold notDbg at hd
  simp only [Bool.and_eq_true, Bool.not_eq_true'] at hd
  cases hsp : T.gs[gi]? with
  | none => exact ⟨fun pins s σ H Q I ⟨S, ρ, er, w⟩ => by simp only [wE, hsp] at w⟩
  | some sp =>
    obtain ⟨f, fd, ps, F, hmg, hk, hb⟩ := (g.cal gi x sp hg hsp).ex
    refine PE.imp (pe_call F g.room (g.gl hx) hmg hk hb .nil (E := fun _ _ _ => False) (fun _ _ _ _ _ _ _ z => z.elim) ha hd.1 (star_cons (hst e List.mem_cons_self)) (star_any fun e he => hst e (List.mem_cons_of_mem _ he))) ?_
    rintro σ H Q ⟨S, ρ, er, w⟩
    simp only [wE, hsp] at w
    refine ⟨S, ρ, er, wA_mono w fun ds ⟨Q', h, wk⟩ vs H1 e1 s1 _ r1 => ?_⟩
    show liftSp C sp (vs ++ []) H1 Q _
    rw [List.append_nil]
    exact ⟨Ms S ρ σ, ds, Q', (er.ext e1 s1).mok, s1, r1 hs, h, fun d hd v H' e2 s2 r2 => wk d hd v H' (e1.trans e2) s2 (.of r2 fun z => by cases z)⟩
end
end Mp

/-! Mini, part I: built-in calls, tests, what a loop walks. -/
namespace Mp
open PySem PySem.Spec PyProof.Rows L2
section
variable {C : MC} {T : TB} {X : Cx} {N : List Str} {sc : Scope} {k : Nat}
theorem snd_bi {b : Bi} {as : M} {p pos : Pos} {e : Expr} {es : List Expr} (g : Gd C T X N sc k) (hb : biOk T b = true) (hx : glbB sc (biName b) = true) (hm : mtA T N as sc (e :: es) = true) (ha : PA X (e :: es) (liftA C T.gs as)) :
    PE X (.Call (.Name (biName b) p) (e :: es) [] pos) (liftE C T.gs (.bi b as)) := by
  have hst := mtA_star hm
  have he := star_cons (es := es) (env := X.env) (hst e List.mem_cons_self)
  have hpl := star_any (pos := pos) (env := X.env) fun e he => hst e (List.mem_cons_of_mem _ he)
  have key : ∀ σ H Q, liftE C T.gs (.bi b as) σ H Q → tCB (biR C b) (liftA C T.gs as) σ H Q := by
    rintro σ H Q ⟨S, ρ, er, w⟩
    simp only [wE] at w
    refine ⟨S, ρ, er, wA_mono w fun ds h vs H1 e1 s1 r1 _ => ⟨Ms S ρ σ, ds, (er.ext e1 s1).mok, s1, r1, biW_mono h fun d w v H' e2 s2 r2 f2 => w v H' (e1.trans e2) s2 (.of r2 fun _ hl => (f2 hl).back e1 s1)⟩⟩
  have gl := g.gl hx
  cases b <;> first
    | cases hb
    | skip
  · exact PE.imp (pe_callB (bi_len g.eK) gl (g.blt _ (by decide)) (by decide +kernel) ha (by decide) (by decide) he hpl) key
  · exact PE.imp (pe_callB bi_abs gl (g.blt _ (by decide)) (by decide +kernel) ha (by decide) (by decide) he hpl) key
  · exact PE.imp (pe_callTy bi_int gl (g.blt _ (by decide)) (by decide +kernel) ha (by decide) (by decide) he hpl) key
  · exact PE.imp (pe_callB (bi_sum g.eK g.calm) gl (g.blt _ (by decide)) (by decide +kernel) ha (by decide) (by decide) he hpl) key
  · exact PE.imp (pe_callB (bi_max g.eK g.calm) gl (g.blt _ (by decide)) (by decide +kernel) ha (by decide) (by decide) he hpl) key
  · exact PE.imp (pe_callB (bi_min g.eK g.calm) gl (g.blt _ (by decide)) (by decide +kernel) ha (by decide) (by decide) he hpl) key
  · exact PE.imp (pe_callB bi_sorted gl (g.blt _ (by decide)) (by decide +kernel) ha (by decide) (by decide) he hpl) key
  · exact PE.imp (pe_callTy (bi_tuple g.eK) gl (g.blt _ (by decide)) (by decide +kernel) ha (by decide) (by decide) he hpl) key
  · exact PE.imp (pe_callTy (bi_list g.eK) gl (g.blt _ (by decide)) (by decide +kernel) ha (by decide) (by decide) he hpl) key
  · exact PE.imp (pe_callBfun bi_gcd gl (g.gcd hb) ha (by decide) he hpl) key
theorem isiName_ok (ty : Nat) (h : ty < 5) : isiName ty ∈ bltNames ∧ bootBuiltins (isiName ty) = some (.type (isiTy ty)) ∧ isiName ty ≠ "__name__" ∧ (isiName ty == ("__debug__" : Str)) = false := by
  match ty, h with
  | 0, _ => exact ⟨by decide, by decide +kernel, by decide, by decide⟩
  | 1, _ => exact ⟨by decide, by decide +kernel, by decide, by decide⟩
  | 2, _ => exact ⟨by decide, by decide +kernel, by decide, by decide⟩
  | 3, _ => exact ⟨by decide, by decide +kernel, by decide, by decide⟩
  | 4, _ => exact ⟨by decide, by decide +kernel, by decide, by decide⟩
theorem snd_isi {a : M} {ty : Nat} {e : Expr} {p q pos : Pos} (g : Gd C T X N sc k) (hf : glbB sc "isinstance" = true) (ht : ty < 5) (hx : glbB sc (isiName ty) = true) (hs : notStar e = true) (ha : PE X e (liftE C T.gs a)) :
    PE X (.Call (.Name "isinstance" p) [e, .Name (isiName ty) q] [] pos) (liftE C T.gs (.isi a ty)) := by
  obtain ⟨n1, n2, n3, n4⟩ := isiName_ok ty ht
  have hT : PE X (.Name (isiName ty) q) (tC (.ty (isiTy ty))) := pe_bltn (g.gl hx) (g.blt _ n1) n2 rfl n3 n4
  refine PE.imp (pe_callB (call_isiD g.eK ty ht) (g.gl hf) (g.blt _ (by decide)) (by decide +kernel) (pa_cons ha (pa_cons hT pa_nil) (star_cons hs)) (by decide) (by decide) (star_cons hs) (star_any (by simp [notStar]))) ?_
  rintro σ H Q ⟨S, ρ, er, w⟩
  simp only [wE] at w
  exact ⟨S, ρ, er, wE_mono w fun d h v H1 e1 s1 r1 => ⟨Ms S ρ σ, d, v, s1, rfl, r1.b, h.1, h.2 _ _ e1 s1 (.of (.bl _) fun z => by cases z)⟩⟩

/-! ### tests -/
theorem RpB.tru {H : Hp} {Mk : Addr → Prop} {v : V} {d : D} {Q : Bool → Prop} (hK : X.K = C.K) (r : RpB C H Mk v d) (h : truW d Q) : ∃ b, TruV X.K v H b ∧ Q b := by
  cases d <;> first
    | exact h.elim
    | skip
  · obtain rfl := r.bl
    exact ⟨_, rfl, h⟩
  · obtain ⟨a, xs, rfl, h1, r1⟩ := r.list
    refine ⟨_, .inl ⟨xs, SqL.of h1, rfl⟩, ?_⟩
    have h' : Q (!(List.isEmpty (α := D) _)) := h
    cases r1 with
    | nil => exact h'
    | cons _ _ => exact h'
theorem snd_tru {a : M} {x : Expr} (g : Gd C T X N sc k) (hp : plainTest x = true) (ha : PE X x (liftE C T.gs a)) : PT X x (liftT C T.gs (.tru a)) := by
  refine PT.imp (pt_truth ha ?_) ?_
  · intro whole
    cases x <;> first
      | rfl
      | cases hp
      | skip
    rename_i op y pos
    cases op <;> first | rfl | cases hp
  · rintro σ H Q ⟨S, ρ, er, w⟩
    simp only [wT] at w
    refine ⟨S, ρ, er, wE_mono w fun d h v H1 e1 s1 r1 => ?_⟩
    obtain ⟨b, hb, h⟩ := r1.b.tru g.eK h
    exact ⟨b, hb, h H1 e1 s1⟩
theorem snd_notT {a : M} {x : Expr} {pos : Pos} (ha : PT X x (liftT C T.gs a)) : PT X (.UnaryOp .Not x pos) (liftT C T.gs (.notT a)) :=
  PT.imp (pt_not ha) fun σ H Q ⟨S, ρ, er, w⟩ => ⟨S, ρ, er, wT_mono (by simpa only [wT] using w) fun b h => h⟩
theorem boolop_one {op : PySem.BoolOp} {x : Expr} {pos : Pos} {t : TT} (h : PT X x t) : PW X (.BoolOp op [x] pos) t := by
  cases op
  · exact pw_and1 h
  · exact pw_or1 h
theorem snd_andW {a b : M} {x y : Expr} {r : List Expr} {pos : Pos} (ha : PT X x (liftT C T.gs a)) (hb : PW X (.BoolOp .And (y :: r) pos) (liftT C T.gs b)) : PW X (.BoolOp .And (x :: y :: r) pos) (liftT C T.gs (.andT a b)) := by
  refine PW.imp (pw_and ha hb) ?_
  rintro σ H Q ⟨S, ρ, er, w⟩
  simp only [wT] at w
  refine ⟨S, ρ, er, wT_mono w fun d h H1 e1 s1 => ?_⟩
  cases d with
  | false => exact h H1 e1 s1
  | true => exact ⟨S, ρ, er.ext e1 s1, wT_mono h fun b h H2 e2 s2 => h H2 (e1.trans e2) s2⟩
theorem snd_orW {a b : M} {x y : Expr} {r : List Expr} {pos : Pos} (ha : PT X x (liftT C T.gs a)) (hb : PW X (.BoolOp .Or (y :: r) pos) (liftT C T.gs b)) : PW X (.BoolOp .Or (x :: y :: r) pos) (liftT C T.gs (.orT a b)) := by
  refine PW.imp (pw_or ha hb) ?_
  rintro σ H Q ⟨S, ρ, er, w⟩
  simp only [wT] at w
  refine ⟨S, ρ, er, wT_mono w fun d h H1 e1 s1 => ?_⟩
  cases d with
  | true => exact h H1 e1 s1
  | false => exact ⟨S, ρ, er.ext e1 s1, wT_mono h fun b h H2 e2 s2 => h H2 (e1.trans e2) s2⟩
theorem PT.pw {op : PySem.BoolOp} {xs : List Expr} {pos : Pos} {t : TT} (h : PT X (.BoolOp op xs pos) t) : PW X (.BoolOp op xs pos) t := ⟨fun whole pins s σ H Q I q => by
  have := h.run pins s σ H Q I q
  simp only [PySem.isTrue] at this ⊢
  exact this⟩
theorem snd_andE {a b : M} {x y : Expr} {r : List Expr} {pos : Pos} (hn : isBor b = false) (ha : PE X x (liftE C T.gs a)) (hb : PE X (.BoolOp .And (y :: r) pos) (liftE C T.gs b)) : PE X (.BoolOp .And (x :: y :: r) pos) (liftE C T.gs (.andV a b)) := by
  refine PE.imp (pe_and ha hb) ?_
  rintro σ H Q ⟨S, ρ, er, w⟩
  simp only [wE] at w
  refine ⟨S, ρ, er, wE_mono w fun d ⟨k, e, h⟩ v H1 e1 s1 r1 => ?_⟩
  subst e
  refine ⟨k, r1.b.bl, ?_⟩
  cases k with
  | false => exact h _ H1 e1 s1 (.of (.bl _) fun z => by cases z)
  | true => exact ⟨S, ρ, er.ext e1 s1, wE_mono h fun d h v H2 e2 s2 r2 => h v H2 (e1.trans e2) s2 (.of (r2.r hn) fun z => by cases z)⟩
theorem snd_orE {a b : M} {x y : Expr} {r : List Expr} {pos : Pos} (hn : isBor b = false) (ha : PE X x (liftE C T.gs a)) (hb : PE X (.BoolOp .Or (y :: r) pos) (liftE C T.gs b)) : PE X (.BoolOp .Or (x :: y :: r) pos) (liftE C T.gs (.orV a b)) := by
  refine PE.imp (pe_or ha hb) ?_
  rintro σ H Q ⟨S, ρ, er, w⟩
  simp only [wE] at w
  refine ⟨S, ρ, er, wE_mono w fun d ⟨k, e, h⟩ v H1 e1 s1 r1 => ?_⟩
  subst e
  refine ⟨k, r1.b.bl, ?_⟩
  cases k with
  | true => exact h _ H1 e1 s1 (.of (.bl _) fun z => by cases z)
  | false => exact ⟨S, ρ, er.ext e1 s1, wE_mono h fun d h v H2 e2 s2 r2 => h v H2 (e1.trans e2) s2 (.of (r2.r hn) fun z => by cases z)⟩
theorem snd_notE {a : M} {x : Expr} {pos : Pos} (ha : PE X x (liftE C T.gs a)) : PE X (.UnaryOp .Not x pos) (liftE C T.gs (.notV a)) := by
  refine PE.imp (pe_not ha) ?_
  rintro σ H Q ⟨S, ρ, er, w⟩
  simp only [wE] at w
  refine ⟨S, ρ, er, wE_mono w fun d ⟨k, e, h⟩ v H1 e1 s1 r1 => ?_⟩
  subst e
  exact ⟨k, r1.b.bl, h _ H1 e1 s1 (.of (.bl _) fun z => by cases z)⟩
theorem snd_ite {c a b : M} {t x y : Expr} {pos : Pos} (na : isBor a = false) (nb : isBor b = false) (hc : PT X t (liftT C T.gs c)) (ha : PE X x (liftE C T.gs a)) (hb : PE X y (liftE C T.gs b)) : PE X (.IfExp t x y pos) (liftE C T.gs (.ite c a b)) := by
  refine PE.imp (pe_ifExp hc ha hb) ?_
  rintro σ H Q ⟨S, ρ, er, w⟩
  simp only [wE] at w
  refine ⟨S, ρ, er, wT_mono w fun d h H1 e1 s1 => ?_⟩
  cases d with
  | true => exact ⟨S, ρ, er.ext e1 s1, wE_mono h fun d h v H2 e2 s2 r2 => h v H2 (e1.trans e2) s2 (.of (r2.r na) fun z => by cases z)⟩
  | false => exact ⟨S, ρ, er.ext e1 s1, wE_mono h fun d h v H2 e2 s2 r2 => h v H2 (e1.trans e2) s2 (.of (r2.r nb) fun z => by cases z)⟩
theorem snd_neg {a : M} {x : Expr} {pos : Pos} (ha : PE X x (liftE C T.gs a)) : PE X (.UnaryOp .USub x pos) (liftE C T.gs (.neg a)) := by
  refine PE.imp (pe_un un_neg ha) ?_
  rintro σ H Q ⟨S, ρ, er, w⟩
  simp only [wE] at w
  refine ⟨S, ρ, er, wE_mono w fun d ⟨k, e, h⟩ v H1 e1 s1 r1 => ?_⟩
  subst e
  exact ⟨k, r1.b.int, h _ H1 e1 s1 (.of (.int _) fun z => by cases z)⟩
theorem snd_tup {as : M} {xs : List Expr} {kk : Nat} {pos : Pos} (hs : strict as = true) (ha : PA X xs (liftA C T.gs as)) : PE X (.Tuple xs kk pos) (liftE C T.gs (.tup as)) := by
  refine PE.imp (pe_tup ha) ?_
  rintro σ H Q ⟨S, ρ, er, w⟩
  simp only [wE] at w
  refine ⟨S, ρ, er, wA_mono w fun ds h vs H1 e1 s1 _ r1 => ⟨by rw [(r1 hs).length]; exact h.1, fun p hp => ?_⟩⟩
  obtain ⟨f1, f2, f3⟩ := fresh_tup (er.ext e1 s1).mok s1 hp (r1 hs)
  exact h.2 _ _ (e1.trans f1) f2 (.of f3 fun z => by cases z)
theorem snd_lst {as : M} {xs : List Expr} {pos : Pos} (hs : strict as = true) (ha : PA X xs (liftA C T.gs as)) : PE X (.List xs pos) (liftE C T.gs (.lst as)) := by
  refine PE.imp (pe_lst ha) ?_
  rintro σ H Q ⟨S, ρ, er, w⟩
  simp only [wE] at w
  refine ⟨S, ρ, er, wA_mono w fun ds h vs H1 e1 s1 _ r1 => ⟨by rw [(r1 hs).length]; exact h.1, fun p hp => ?_⟩⟩
  obtain ⟨f1, f2, f3, f4⟩ := fresh_lst (er.ext e1 s1).mok s1 hp (r1 hs)
  exact h.2 _ _ (e1.trans f1) f2 (.of f3 fun _ _ => f4.back e1 s1)
theorem snd_nilA : PA X [] (liftA C T.gs .nil) := by
  refine PA.imp pa_nil ?_
  rintro σ H Q ⟨S, ρ, er, w⟩
  simp only [wA] at w
  exact w [] H Ext.refl er.st .nil fun _ => .nil
theorem snd_consA {a as : M} {x : Expr} {xs : List Expr} (hx : notStar x = true) (ha : PE X x (liftE C T.gs a)) (hb : PA X xs (liftA C T.gs as)) : PA X (x :: xs) (liftA C T.gs (.cons a as)) := by
  refine PA.imp (pa_cons ha hb (star_cons hx)) ?_
  rintro σ H Q ⟨S, ρ, er, w⟩
  simp only [wA] at w
  refine ⟨S, ρ, er, wE_mono w fun d h v H1 e1 s1 r1 => ⟨S, ρ, er.ext e1 s1, wA_mono h fun ds h vs H2 e2 s2 r2 r3 => ?_⟩⟩
  have mo := (er.ext e1 s1).mok
  refine h _ H2 (e1.trans e2) s2 (.cons (r1.bx mo e2) r2) fun hs => ?_
  simp only [strict, Bool.and_eq_true, Bool.not_eq_true'] at hs
  exact .cons ((r1.r hs.1).mono (mo.sub e2)) (r3 hs.2)

/-! ### what a loop walks -/
theorem Rp.listS {H : Hp} {Mk : Addr → Prop} {v : V} {ds : List D} (h : Rp C (mask H Mk) v (.list ds)) : ∃ a xs, v = .ref a ∧ mask H Mk a = some (.lst xs) ∧ RpA C (mask H Mk) xs ds := by
  cases h with
  | lst h r => exact ⟨_, _, rfl, h, r⟩
theorem RpB.listX {H : Hp} {Mk : Addr → Prop} {v : V} {ds : List D} (mo : MOk C Mk H) (h : RpB C H Mk v (.list ds)) : ∃ a xs, v = .ref a ∧ a ≠ C.sA ∧ a ≠ C.cA ∧ H a = some (.lst xs) ∧ RpA C (mask H Mk) xs ds := by
  rcases h with h | ⟨a, rfl, n1, n2, h⟩
  · obtain ⟨a, xs, rfl, h1, r1⟩ := h.listS
    obtain ⟨h2, h3⟩ := mask_some.mp h1
    exact ⟨a, xs, rfl, fun e => h2 (by rw [e]; exact mo.s), fun e => h2 (by rw [e]; exact mo.c), h3, r1⟩
  · cases h with
    | lst h r => exact ⟨_, _, rfl, n1, n2, h, r⟩
theorem Ext.subM {H H' : Hp} {Mk : Addr → Prop} (mo : MOk C Mk H) (e : Ext C H H') : Sub (mask H Mk) H' := (mo.sub e).trans mask_sub
theorem wk_list {Kp : Hp → Prop} {G : Hp} {K : PySem.W.Frag} {a : Addr} {xs : List V} {ds : List D} (h : ∀ H, Kp H → H a = some (.lst xs)) (r : RpA C G xs ds) : Wk C Kp G (Itl K a) ds := by
  intro i H hk
  have q : SqL K H a xs := SqL.of (h H hk)
  refine ⟨fun hi => ?_, fun hi => ⟨xs, q, by rw [r.length]; exact hi⟩⟩
  obtain ⟨x, hx, rx⟩ := r.get (List.getElem?_eq_getElem hi)
  refine ⟨⟨xs, x, q, hx⟩, fun y H' hy => ?_⟩
  obtain ⟨rfl, hy⟩ := hy
  have := hy xs q
  rw [hx] at this; cases this
  exact ⟨fun _ _ z => z, _, List.getElem?_eq_getElem hi, G, rx, fun _ _ z => .inl z⟩
theorem wk_tup {Kp : Hp → Prop} {G : Hp} {K : PySem.W.Frag} {a : Addr} {xs : List V} {ds : List D} (h : ∀ H, Kp H → SqT K H a xs) (r : RpA C G xs ds) : Wk C Kp G (Itt K a) ds := by
  intro i H hk
  have q : SqT K H a xs := h H hk
  refine ⟨fun hi => ?_, fun hi => ⟨xs, q, by rw [r.length]; exact hi⟩⟩
  obtain ⟨x, hx, rx⟩ := r.get (List.getElem?_eq_getElem hi)
  refine ⟨⟨xs, x, q, hx⟩, fun y H' hy => ?_⟩
  obtain ⟨rfl, hy⟩ := hy
  have := hy xs q
  rw [hx] at this; cases this
  exact ⟨fun _ _ z => z, _, List.getElem?_eq_getElem hi, G, rx, fun _ _ z => .inl z⟩
theorem wk_rng {Kp : Hp → Prop} {G : Hp} {lo : Int} {n : Nat} : Wk C Kp G (Itr lo n) (rngD lo n) := by
  intro i H hk
  have hl : (rngD lo n).length = n := by simp [rngD]
  rw [hl]
  refine ⟨fun hi => ⟨hi, fun y H' hy => ?_⟩, fun hi => hi⟩
  obtain ⟨rfl, rfl⟩ := hy
  exact ⟨fun _ _ z => z, .int (lo + i), by simp [rngD, hi], G, .int _, fun _ _ z => .inl z⟩
theorem wk_rngC {Kp : Hp → Prop} {G : Hp} {lo c : Int} {n : Nat} : Wk C Kp G (Itc lo c n) (rngC lo c n) := by
  intro i H hk
  have hl : (rngC lo c n).length = n := by simp [rngC]
  rw [hl]
  refine ⟨fun hi => ⟨hi, fun y H' hy => ?_⟩, fun hi => hi⟩
  obtain ⟨rfl, rfl⟩ := hy
  exact ⟨fun _ _ z => z, .int (lo + i * c), by simp [rngC, hi], G, .int _, fun _ _ z => .inl z⟩
/-- a list or a tuple -/
def iSeq (K : PySem.W.Frag) (tl : TE) : TI := fun σ H R => tl σ H fun x H1 => ∃ a xs, x = .ref a ∧ ((SqL K H1 a xs ∧ R (Itl K a) H1) ∨ (SqT K H1 a xs ∧ R (Itt K a) H1))
theorem pi_seq {tg l : Expr} {tl : TE} (hl : PE X l tl) : PI X tg l (iSeq X.K tl) := by
  refine ⟨fun pins s σ H R I h => thn (hl.run pins s σ H _ I h) fun v s1 w => ?_⟩
  obtain ⟨x, H1, I1, r1, a, xs, e, q⟩ := w
  cases e
  cases r1
  have fp : ∀ b ∈ [s1.heap.objs.size], FpOk X pins H1 b := fun b hb => by
    rw [List.mem_singleton] at hb
    rw [hb]
    exact I1.fpOk (Nat.le_refl _) (I1.hok.fresh (Nat.le_refl _))
  rcases q with ⟨hq, q⟩ | ⟨hq, q⟩
  · obtain ⟨its, rv, pl, hz⟩ := I1.list hq
    exact wpAny_pyIter_list pl.isList ⟨_, [s1.heap.objs.size], _, _, H1, rfl, I1.kept (t' := s1.toks) fun b o z => Heap.get?_push_of_some _ z, turn_list a _, ⟨_, Heap.get?_push_size _ rfl, rfl, rfl⟩, fp, q⟩
  · obtain ⟨its, rv, pl, hz⟩ := I1.tuple hq
    exact wpAny_pyIter_tuple (items := its.toArray) pl ⟨_, [s1.heap.objs.size], _, _, H1, rfl, I1.kept (t' := s1.toks) fun b o z => Heap.get?_push_of_some _ z, turn_tuple a _, ⟨_, Heap.get?_push_size _ rfl, rfl, rfl⟩, fp, q⟩
theorem snd_seqI {a : M} {tg x : Expr} (g : Gd C T X N sc k) (ha : PE X x (liftE C T.gs a)) : PI X tg x (liftI C T.gs (.seq a)) := by
  refine PI.imp (pi_seq ha) ?_
  rintro σ H R ⟨S, ρ, er, w⟩
  simp only [wI] at w
  refine ⟨S, ρ, er, wE_mono w fun d ⟨ds, e, h⟩ v H1 e1 s1 r1 => ?_⟩
  have mo := (er.ext e1 s1).mok
  rcases e with rfl | rfl
  · obtain ⟨b, xs, rfl, n1, n2, h1, q1⟩ := r1.b.listX mo
    refine ⟨b, xs, rfl, .inl ⟨SqL.of h1, h _ H1 e1 s1 (wk_list (fun H2 e2 => e2 _ _ n1 n2 h1) q1) fun hs => ?_⟩⟩
    obtain ⟨b', xs', e', h1', q1'⟩ := (r1.r (by simpa [strictI] using hs)).listS
    cases e'
    exact wk_list (fun H2 e2 => e2 _ _ h1') q1'
  · obtain ⟨b, xs, rfl, h1, q1⟩ := r1.b.tuple
    refine ⟨b, xs, rfl, .inr ⟨by rw [g.eK]; exact mask_sub.sqT h1, h _ H1 e1 s1 (wk_tup (fun H2 e2 => by rw [g.eK]; exact (e2.subM mo).sqT h1) q1) fun hs => wk_tup (fun H2 e2 => by rw [g.eK]; exact e2.sqT h1) q1⟩⟩
theorem snd_rng1 {a : M} {tg x : Expr} {p pos : Pos} (g : Gd C T X N sc k) (hr : glbB sc "range" = true) (hx : notStar x = true) (ha : PE X x (liftE C T.gs a)) : PI X tg (.Call (.Name "range" p) [x] [] pos) (liftI C T.gs (.rng1 a)) := by
  refine PI.imp (pi_range1 (g.gl hr) (g.blt _ (by decide)) (pa_cons ha pa_nil (star_cons hx)) (star_cons hx)) ?_
  rintro σ H R ⟨S, ρ, er, w⟩
  simp only [wI] at w
  refine ⟨S, ρ, er, wE_mono w fun d ⟨j, e, sm, h⟩ v H1 e1 s1 r1 => ?_⟩
  subst e
  exact ⟨j, by rw [r1.b.int], sm.1, sm.2, h _ H1 e1 s1 wk_rng fun _ => wk_rng⟩
theorem snd_rng2 {a b : M} {tg x y : Expr} {p pos : Pos} (g : Gd C T X N sc k) (hr : glbB sc "range" = true) (hx : notStar x = true) (hy : notStar y = true) (ha : PE X x (liftE C T.gs a)) (hb : PE X y (liftE C T.gs b)) : PI X tg (.Call (.Name "range" p) [x, y] [] pos) (liftI C T.gs (.rng2 a b)) := by
  refine PI.imp (pi_range2 (g.gl hr) (g.blt _ (by decide)) (pa_cons ha (pa_cons hb pa_nil (star_cons hy)) (star_cons hx)) (by rw [star_cons hx, star_cons hy]; rfl) (star_cons hy)) ?_
  rintro σ H R ⟨S, ρ, er, w⟩
  simp only [wI] at w
  refine ⟨S, ρ, er, wE_mono w fun d w v H1 e1 s1 r1 => ⟨S, ρ, er.ext e1 s1, wE_mono w fun d2 ⟨i, j, e, e', sm, sm2, h⟩ u H2 e2 s2 r2 => ?_⟩⟩
  subst e e'
  exact ⟨i, j, by rw [r1.b.int, r2.b.int], ⟨sm.1, sm.2, sm2.1, sm2.2⟩, h _ H2 (e1.trans e2) s2 wk_rng fun _ => wk_rng⟩
theorem snd_rng3 {a b c : M} {tg x y z : Expr} {p pos : Pos} (g : Gd C T X N sc k) (hr : glbB sc "range" = true) (hx : notStar x = true) (hy : notStar y = true) (hz : notStar z = true) (ha : PE X x (liftE C T.gs a)) (hb : PE X y (liftE C T.gs b)) (hc : PE X z (liftE C T.gs c)) :
    PI X tg (.Call (.Name "range" p) [x, y, z] [] pos) (liftI C T.gs (.rng3 a b c)) := by
  refine PI.imp (pi_range3 (g.gl hr) (g.blt _ (by decide)) (pa_cons ha (pa_cons hb (pa_cons hc pa_nil (star_cons hz)) (star_cons hy)) (star_cons hx)) (star_cons hx) (star_any (by simp [hy, hz]))) ?_
  rintro σ H R ⟨S, ρ, er, w⟩
  simp only [wI] at w
  refine ⟨S, ρ, er, wE_mono w fun d w v H1 e1 s1 r1 => ⟨S, ρ, er.ext e1 s1, wE_mono w fun d2 w u H2 e2 s2 r2 => ⟨S, ρ, (er.ext e1 s1).ext e2 s2, wE_mono w fun d3 ⟨i, j, st, n, e, e', e'', sm, h⟩ u3 H3 e3 s3 r3 => ?_⟩⟩⟩
  subst e e' e''
  exact ⟨i, j, st, n, by rw [r1.b.int, r2.b.int, r3.b.int], sm, h _ H3 (e1.trans (e2.trans e3)) s3 wk_rngC fun _ => wk_rngC⟩
theorem snd_revd {a : M} {tg x : Expr} {p pos : Pos} (g : Gd C T X N sc k) (hr : glbB sc "reversed" = true) (hx : notStar x = true) (ha : PE X x (liftE C T.gs a)) : PI X tg (.Call (.Name "reversed" p) [x] [] pos) (liftI C T.gs (.revd a)) := by
  refine PI.imp (RT.pi_revA (g.gl hr) (g.blt _ (by decide)) ha (star_cons hx)) ?_
  have wl : ∀ {Kp : Hp → Prop} {G : Hp} {b : Addr} {xs : List V} {ds : List D}, (∀ H, Kp H → H b = some (.lst xs)) → RpA C G xs ds → Wk C Kp G (Itv X.K b xs.length) ds.reverse := by
    intro Kp G b xs ds h r i H hk
    have q : SqL X.K H b xs := SqL.of (h H hk)
    rw [List.length_reverse, ← r.length]
    refine ⟨fun hi => ?_, fun hi => hi⟩
    have hj : xs.length - 1 - i < ds.length := by rw [← r.length]; omega
    obtain ⟨y, hy, ry⟩ := r.get (List.getElem?_eq_getElem hj)
    refine ⟨⟨hi, xs, y, q, hy⟩, fun z H' hz => ?_⟩
    obtain ⟨rfl, hz⟩ := hz
    have := hz xs q
    rw [hy] at this; cases this
    exact ⟨fun _ _ z => z, _, by rw [List.getElem?_reverse (by rw [← r.length]; exact hi), ← r.length, List.getElem?_eq_getElem hj], G, ry, fun _ _ z => .inl z⟩
  have wt : ∀ {Kp : Hp → Prop} {G : Hp} {b : Addr} {xs : List V} {ds : List D}, (∀ H, Kp H → SqT X.K H b xs) → RpA C G xs ds → Wk C Kp G (RT.ItvT X.K b xs.length) ds.reverse := by
    intro Kp G b xs ds h r i H hk
    have q : SqT X.K H b xs := h H hk
    rw [List.length_reverse, ← r.length]
    refine ⟨fun hi => ?_, fun hi => hi⟩
    have hj : xs.length - 1 - i < ds.length := by rw [← r.length]; omega
    obtain ⟨y, hy, ry⟩ := r.get (List.getElem?_eq_getElem hj)
    refine ⟨⟨hi, xs, y, q, hy⟩, fun z H' hz => ?_⟩
    obtain ⟨rfl, hz⟩ := hz
    have := hz xs q
    rw [hy] at this; cases this
    exact ⟨fun _ _ z => z, _, by rw [List.getElem?_reverse (by rw [← r.length]; exact hi), ← r.length, List.getElem?_eq_getElem hj], G, ry, fun _ _ z => .inl z⟩
  rintro σ H R ⟨S, ρ, er, w⟩
  simp only [wI] at w
  refine ⟨S, ρ, er, wE_mono w fun d ⟨ds, e, h⟩ v H1 e1 s1 r1 => ?_⟩
  have mo := (er.ext e1 s1).mok
  rcases e with rfl | rfl
  · obtain ⟨b, xs, rfl, n1, n2, h1, q1⟩ := r1.b.listX mo
    refine ⟨b, xs, rfl, .inl ⟨SqL.of h1, h _ H1 e1 s1 (wl (fun H2 e2 => e2 _ _ n1 n2 h1) q1) fun hs => ?_⟩⟩
    obtain ⟨b', xs', e', h1', q1'⟩ := (r1.r (by simpa [strictI] using hs)).listS
    cases e'
    have : xs' = xs := by have := (mask_some.mp h1').2; rw [h1] at this; cases this; rfl
    subst this
    exact wl (fun H2 e2 => e2 _ _ h1') q1'
  · obtain ⟨b, xs, rfl, h1, q1⟩ := r1.b.tuple
    refine ⟨b, xs, rfl, .inr ⟨by rw [g.eK]; exact mask_sub.sqT h1, h _ H1 e1 s1 (wt (fun H2 e2 => by rw [g.eK]; exact (e2.subM mo).sqT h1) q1) fun hs => wt (fun H2 e2 => by rw [g.eK]; exact e2.sqT h1) q1⟩⟩
end
end Mp

/-! Mini, part J: enumerate, zip, comprehensions; all expressions. -/
namespace Mp
open PySem PySem.Spec PyProof.Rows L2
section
variable {C : MC} {T : TB} {X : Cx} {N : List Str} {sc : Scope} {k : Nat}
theorem enumL_get : ∀ (n : Nat) (xs : List D) (i : Nat), (enumL n xs)[i]? = xs[i]?.map fun d => .tuple [.int ((n + i : Nat) : Int), d]
  | _, [], _ => by simp [enumL]
  | n, x :: xs, 0 => by simp [enumL]
  | n, x :: xs, i + 1 => by
    simp only [enumL, List.getElem?_cons_succ]
    rw [enumL_get (n + 1) xs i]
    rw [show n + 1 + i = n + (i + 1) by omega]
theorem enumL_length : ∀ (n : Nat) (xs : List D), (enumL n xs).length = xs.length
  | _, [] => rfl
  | n, x :: xs => by simp [enumL, enumL_length (n + 1) xs]
theorem new_tup {G H : Hp} {Tp : Addr} {vs : List V} {ds : List D} (hG : Sub G H) (hT : H Tp = none) (r : RpA C G vs ds) : ∃ G', Rp C G' (.ref Tp) (.tuple ds) ∧ ∀ b o, G' b = some o → G b = some o ∨ (H b = none ∧ upd H Tp (.tup vs) b = some o) := by
  have gT : G Tp = none := by
    cases q : G Tp with
    | none => rfl
    | some o => rw [hG _ _ q] at hT; cases hT
  refine ⟨upd G Tp (.tup vs), .tup (SqT.of upd_same) (r.mono fun a o e => by rw [upd_ne (ne_of_none e gT)]; exact e), fun b o e => ?_⟩
  by_cases hb : b = Tp
  · subst hb
    rw [upd_same] at e
    exact .inr ⟨hT, by rw [upd_same]; exact e⟩
  · rw [upd_ne hb] at e
    exact .inl e
theorem wk_enum {Kp : Hp → Prop} {G : Hp} {K : PySem.W.Frag} {a : Addr} {xs : List V} {ds : List D} (hG : ∀ H, Kp H → Sub G H) (h : ∀ H, Kp H → H a = some (.lst xs)) (r : RpA C G xs ds) : Wk C Kp G (Ite K a) (enumL 0 ds) := by
  intro i H hk
  have q : SqL K H a xs := SqL.of (h H hk)
  rw [enumL_length]
  refine ⟨fun hi => ?_, fun hi => ⟨xs, q, by rw [r.length]; exact hi⟩⟩
  obtain ⟨x, hx, rx⟩ := r.get (List.getElem?_eq_getElem hi)
  refine ⟨⟨xs, x, q, hx⟩, fun y H' hy => ?_⟩
  obtain ⟨Tp, x', rfl, hT, rfl, hy⟩ := hy
  have := hy xs q
  rw [hx] at this; cases this
  refine ⟨fun b o z => by rw [upd_ne (ne_of_none z hT)]; exact z, .tuple [.int ((0 + i : Nat) : Int), ds[i]], by rw [enumL_get, List.getElem?_eq_getElem hi]; rfl, ?_⟩
  rw [Nat.zero_add]
  exact new_tup (hG H hk) hT (.cons (.int _) (.cons rx .nil))
theorem snd_enum {a : M} {tg x : Expr} {p pos : Pos} (g : Gd C T X N sc k) (hr : glbB sc "enumerate" = true) (hx : notStar x = true) (ht : isTupE tg = true) (ha : PE X x (liftE C T.gs a)) : PI X tg (.Call (.Name "enumerate" p) [x] [] pos) (liftI C T.gs (.enum a)) := by
  cases tg <;> first
    | cases ht
    | skip
  refine PI.imp (pi_enum (g.gl hr) (g.blt _ (by decide)) (pa_cons ha pa_nil (star_cons hx)) (star_cons hx)) ?_
  rintro σ H R ⟨S, ρ, er, w⟩
  simp only [wI] at w
  refine ⟨S, ρ, er, wE_mono w fun d ⟨ds, e, h⟩ v H1 e1 s1 r1 => ?_⟩
  have mo := (er.ext e1 s1).mok
  subst e
  obtain ⟨b, xs, rfl, n1, n2, h1, q1⟩ := r1.b.listX mo
  refine ⟨b, xs, rfl, SqL.of h1, h _ H1 e1 s1 (wk_enum (fun H2 e2 => e2.subM mo) (fun H2 e2 => e2 _ _ n1 n2 h1) q1) fun hs => ?_⟩
  obtain ⟨b', xs', e', h1', q1'⟩ := (r1.r (by simpa [strictI] using hs)).listS
  cases e'
  exact wk_enum (fun H2 e2 => e2) (fun H2 e2 => e2 _ _ h1') q1'
theorem wk_zip {Kp : Hp → Prop} {G : Hp} {K : PySem.W.Frag} {a b : Addr} {xs ys : List V} {ds es : List D} (hG : ∀ H, Kp H → Sub G H) (h : ∀ H, Kp H → H a = some (.lst xs)) (h' : ∀ H, Kp H → H b = some (.lst ys)) (r : RpA C G xs ds) (r' : RpA C G ys es) :
    Wk C Kp G (Itz K a b) (List.zipWith (fun u v => .tuple [u, v]) ds es) := by
  intro i H hk
  have q : SqL K H a xs := SqL.of (h H hk)
  have q' : SqL K H b ys := SqL.of (h' H hk)
  have l1 := r.length
  have l2 := r'.length
  rw [List.length_zipWith]
  refine ⟨fun hi => ?_, fun hi => ⟨xs, ys, q, q', by omega⟩⟩
  have hi1 : i < ds.length := by omega
  have hi2 : i < es.length := by omega
  obtain ⟨x, hx, rx⟩ := r.get (List.getElem?_eq_getElem hi1)
  obtain ⟨y, hy, ry⟩ := r'.get (List.getElem?_eq_getElem hi2)
  refine ⟨⟨xs, ys, x, y, q, q', hx, hy⟩, fun z H' hz => ?_⟩
  obtain ⟨Tp, x', y', rfl, hT, rfl, f1, f2⟩ := hz
  have e1 := f1 xs q
  have e2 := f2 ys q'
  rw [hx] at e1; cases e1
  rw [hy] at e2; cases e2
  refine ⟨fun b o z => by rw [upd_ne (ne_of_none z hT)]; exact z, .tuple [ds[i], es[i]], ?_, new_tup (hG H hk) hT (.cons rx (.cons ry .nil))⟩
  rw [List.getElem?_zipWith, List.getElem?_eq_getElem hi1, List.getElem?_eq_getElem hi2]
theorem snd_zip {a b : M} {tg x y : Expr} {p pos : Pos} (g : Gd C T X N sc k) (hr : glbB sc "zip" = true) (hx : notStar x = true) (hy : notStar y = true) (ht : isTupE tg = true) (ha : PE X x (liftE C T.gs a)) (hb : PE X y (liftE C T.gs b)) : PI X tg (.Call (.Name "zip" p) [x, y] [] pos) (liftI C T.gs (.zip a b)) := by
  cases tg <;> first
    | cases ht
    | skip
  refine PI.imp (pi_zip (g.gl hr) (g.blt _ (by decide)) (pa_cons ha (pa_cons hb pa_nil (star_cons hy)) (star_cons hx)) (star_cons hx) (star_any (by simp [hy]))) ?_
  rintro σ H R ⟨S, ρ, er, w⟩
  simp only [wI] at w
  refine ⟨S, ρ, er, wE_mono w fun d w v H1 e1 s1 r1 => ⟨S, ρ, er.ext e1 s1, wE_mono w fun d2 ⟨ds, es, e, e', h⟩ u H2 e2 s2 r2 => ?_⟩⟩
  have mo := (er.ext e1 s1).mok
  have mo2 := ((er.ext e1 s1).ext e2 s2).mok
  subst e e'
  obtain ⟨b1, xs, rfl, n1, n2, h1, q1⟩ := (r1.bx mo e2).listX mo2
  obtain ⟨b2, ys, rfl, n3, n4, h2, q2⟩ := r2.b.listX mo2
  refine ⟨b1, b2, xs, ys, rfl, SqL.of h1, SqL.of h2, h _ H2 (e1.trans e2) s2 (wk_zip (fun H3 e3 => e3.subM mo2) (fun H3 e3 => e3 _ _ n1 n2 h1) (fun H3 e3 => e3 _ _ n3 n4 h2) q1 q2) fun hs => ?_⟩
  simp only [strictI, Bool.and_eq_true, Bool.not_eq_true'] at hs
  obtain ⟨c1, xs', e', h1', q1'⟩ := ((r1.r hs.1).mono (mo.sub e2)).listS
  obtain ⟨c2, ys', e'', h2', q2'⟩ := (r2.r hs.2).listS
  cases e'
  cases e''
  exact wk_zip (fun H3 e3 => e3) (fun H3 e3 => e3 _ _ h1') (fun H3 e3 => e3 _ _ h2') q1' q2'

/-! ### comprehensions -/
theorem wipe_get {σ : L2.St} : ∀ {vs : List Nat} {i : Nat}, i ∉ vs → (wipe σ vs)[i]? = σ[i]?
  | [], _, _ => rfl
  | v :: vs, i, h => by
    unfold wipe
    rw [List.getElem?_set_ne (fun e => h (by rw [e]; exact List.mem_cons_self)), wipe_get fun z => h (List.mem_cons_of_mem _ z)]
theorem wipeC_get {ρ : Ev} : ∀ {vs : List Nat} {i : Nat}, i ∉ vs → (wipeC ρ vs)[i]? = ρ[i]?
  | [], _, _ => rfl
  | v :: vs, i, h => by
    unfold wipeC
    rw [List.getElem?_set_ne (fun e => h (by rw [e]; exact List.mem_cons_self)), wipeC_get fun z => h (List.mem_cons_of_mem _ z)]
theorem wipeC_length (ρ : Ev) : ∀ vs : List Nat, (wipeC ρ vs).length = ρ.length
  | [] => rfl
  | v :: vs => by unfold wipeC; rw [List.length_set, wipeC_length ρ vs]
theorem wipeC_un {ρ : Ev} : ∀ {vs : List Nat} {i : Nat}, i ∈ vs → ∀ c, (wipeC ρ vs)[i]? = some c → c = .un
  | v :: vs, i, h, c, e => by
    unfold wipeC at e
    by_cases hv : v = i
    · subst hv
      by_cases hl : v < (wipeC ρ vs).length
      · rw [List.getElem?_set_self hl] at e; cases e; rfl
      · rw [List.getElem?_eq_none (by simpa using hl)] at e; cases e
    · rw [List.getElem?_set_ne hv] at e
      rcases List.mem_cons.mp h with z | z
      · exact absurd z.symm hv
      · exact wipeC_un z c e
theorem wipe_none {σ : L2.St} : ∀ {vs : List Nat} {i : Nat}, i ∈ vs → i < σ.length → (wipe σ vs)[i]? = some none
  | v :: vs, i, h, hi => by
    unfold wipe
    by_cases hv : v = i
    · subst hv
      rw [List.getElem?_set_self (by rw [wipe_length]; exact hi)]
    · rw [List.getElem?_set_ne hv]
      rcases List.mem_cons.mp h with z | z
      · exact absurd z.symm hv
      · exact wipe_none z hi
/-- what differs in the wiped slots alone is the same once they are wiped -/
theorem wipe_same {σ σ' : L2.St} {vs : List Nat} (hl : σ'.length = σ.length) (h : ∀ j, j ∉ vs → σ'[j]? = σ[j]?) : wipe σ' vs = wipe σ vs := by
  apply List.ext_getElem?
  intro i
  by_cases hi : i ∈ vs
  · by_cases hl2 : i < σ.length
    · rw [wipe_none hi hl2, wipe_none hi (by rw [hl]; exact hl2)]
    · rw [List.getElem?_eq_none (by rw [wipe_length, hl]; omega), List.getElem?_eq_none (by rw [wipe_length]; omega)]
  · rw [wipe_get hi, wipe_get hi, h i hi]
theorem own_wipe {ρ : Ev} {σ : L2.St} {vs : List Nat} (hn : noOw ρ vs) (a : Addr) : Own (wipeC ρ vs) (wipe σ vs) a ↔ Own ρ σ a := by
  constructor
  · rintro ⟨i, d, h1, h2⟩
    have hi : i ∉ vs := fun z => by have := wipeC_un z _ h1; cases this
    rw [wipeC_get hi] at h1
    rw [wipe_get hi] at h2
    exact ⟨i, d, h1, h2⟩
  · rintro ⟨i, d, h1, h2⟩
    have hi : i ∉ vs := fun z => hn i z d h1
    exact ⟨i, d, by rw [wipeC_get hi]; exact h1, by rw [wipe_get hi]; exact h2⟩
/-- the block's slots, ahead of a turn: with the list that is being made masked too -/
theorem ER.wiped {S : Addr → Prop} {ρ : Ev} {σ : L2.St} {H0 H : Hp} {Dl : Addr} {vs : List Nat} (er : ER C S ρ σ H0) (hn : noOw ρ vs) (hD0 : H0 Dl = none) (e : Ext C H0 H) (st : StOk C H) (hD : H Dl ≠ none) : ER C (fun a => S a ∨ a = Dl) (wipeC ρ vs) (wipe σ vs) H := by
  have er1 := er.ext e st
  have msub : ∀ a, Ms (fun a => S a ∨ a = Dl) (wipeC ρ vs) (wipe σ vs) a → Ms S ρ σ a ∨ a = Dl := fun a h => by
    rcases h with (h | h) | h
    · exact .inl (.inl h)
    · exact .inr h
    · exact .inl (.inr ((own_wipe hn a).mp h))
  have sub : Sub (mask H0 (Ms S ρ σ)) (mask H (Ms (fun a => S a ∨ a = Dl) (wipeC ρ vs) (wipe σ vs))) := mask_mono fun a o h1 h2 => by
    refine ⟨fun z => ?_, e a o (fun z => h1 (.inl (by rw [z]; exact er.mo.s))) (fun z => h1 (.inl (by rw [z]; exact er.mo.c))) h2⟩
    rcases msub a z with z | z
    · exact h1 z
    · rw [z, hD0] at h2; cases h2
  refine ⟨by rw [wipe_length, wipeC_length]; exact er.len, fun i d h => ?_, fun i d h => ?_, fun i j d d' a h1 h2 h3 h4 => ?_, st, ?_⟩
  · have hi : i ∉ vs := fun z => by have := wipeC_un z _ h; cases this
    rw [wipeC_get hi] at h
    obtain ⟨v, h1, h2⟩ := er.sh i d h
    exact ⟨v, by rw [wipe_get hi]; exact h1, h2.mono sub⟩
  · have hi : i ∉ vs := fun z => by have := wipeC_un z _ h; cases this
    rw [wipeC_get hi] at h
    obtain ⟨a, h1, h2, h3⟩ := er.ow i d h
    obtain ⟨o, ho⟩ := h3.some
    exact ⟨a, by rw [wipe_get hi]; exact h1, fun z => z.elim h2 fun z => (by rw [z, hD0] at ho; cases ho), h3.mono sub fun o q => e a o (fun z => h2 (by rw [z]; exact er.mo.s)) (fun z => h2 (by rw [z]; exact er.mo.c)) q⟩
  · have hi : i ∉ vs := fun z => by have := wipeC_un z _ h1; cases this
    have hj : j ∉ vs := fun z => by have := wipeC_un z _ h2; cases this
    rw [wipeC_get hi] at h1
    rw [wipeC_get hj] at h2
    rw [wipe_get hi] at h3
    rw [wipe_get hj] at h4
    exact er.dj i j d d' a h1 h2 h3 h4
  · exact ⟨.inl er1.mo.s, .inl er1.mo.c, fun a h => h.elim (er1.mo.x a) fun z => by rw [z]; exact hD⟩

theorem lc_key {own : List Nat} {tgm itm ifm em : M} (hb : isBor em = false) (htg : tgIn tgm own = true) : ∀ σ H Q, liftE C T.gs (.lc own tgm itm ifm em) σ H Q → tLc (liftI C T.gs itm) (liftG C tgm) (liftTs C T.gs ifm) (liftE C T.gs em) own σ H Q := by
  rintro σ H Q ⟨S, ρ, er, w⟩
  simp only [wE] at w
  obtain ⟨hn, w⟩ := w
  refine ⟨S, ρ, er, wI_mono w fun items ⟨hlen, hlc⟩ J H1 e1 st1 wk _ Dl hD => ?_⟩
  have er1 := er.ext e1 st1
  have mo1 := er1.mok
  have nD := st1.ne hD
  have hext : ∀ {H2 : Hp}, Ext C H1 H2 → H2 Dl ≠ none → Sub (mask H1 (Ms S ρ σ)) (mask H2 fun a => Ms S ρ σ a ∨ a = Dl) := fun {H2} e2 _ => mask_mono fun a o h1 h2 =>
    ⟨fun z => z.elim h1 fun z => (by rw [z, hD] at h2; cases h2), e2 a o (fun z => h1 (by rw [z]; exact mo1.s)) (fun z => h1 (by rw [z]; exact mo1.c)) h2⟩
  refine ⟨fun i m H2 => m = items.length - i ∧ i ≤ items.length ∧ ∃ acc ds, H2 Dl = some (.lst acc) ∧ ds.length ≤ i ∧ RpA C (mask H2 fun a => Ms S ρ σ a ∨ a = Dl) acc ds ∧ Ext C H1 H2 ∧ StOk C H2 ∧
    lcL (wG tgm) (wTs T.gs ifm) (wE T.gs em) (wipeC ρ own) (items.drop i) ds (fun ds => ∀ v H', Ext C H H' → StOk C H' → RR C (.lc own tgm itm ifm em) H H' (Ms S ρ σ) v (.list ds) → Q v H'), ⟨items.length, by simp, Nat.zero_le _, [], [], upd_same, Nat.le_refl _, .nil, Ext.upd hD, st1.upd nD, hlc⟩, ?_⟩
  rintro i m H2 ⟨rfl, hi2, acc, ds, hA, hl, rA, e2, st2, hlc⟩
  have hDn : H2 Dl ≠ none := by rw [hA]; exact fun z => by cases z
  by_cases hlt : i < items.length
  · right
    obtain ⟨go, yl⟩ := (wk i H2 e2).1 hlt
    refine ⟨go, fun H3 => items.length - (i + 1) = items.length - (i + 1) ∧ i + 1 ≤ items.length ∧ ∃ acc ds, H3 Dl = some (.lst acc) ∧ ds.length ≤ i + 1 ∧ RpA C (mask H3 fun a => Ms S ρ σ a ∨ a = Dl) acc ds ∧ Ext C H1 H3 ∧ StOk C H3 ∧
      lcL (wG tgm) (wTs T.gs ifm) (wE T.gs em) (wipeC ρ own) (items.drop (i + 1)) ds (fun ds => ∀ v H', Ext C H H' → StOk C H' → RR C (.lc own tgm itm ifm em) H H' (Ms S ρ σ) v (.list ds) → Q v H'), fun H3 h3 => ⟨items.length - (i + 1), by omega, h3⟩, fun x H3 hy => ?_⟩
    obtain ⟨keep, d, hd, G', rx, hG'⟩ := yl x H3 hy
    have e23 : Ext C H2 H3 := fun a o _ _ q => keep a o q
    have st3 : StOk C H3 := by
      obtain ⟨cs, seed, n, q1, q2, q3⟩ := st2
      exact ⟨cs, seed, n, keep _ _ q1, keep _ _ q2, q3⟩
    have hD3 : H3 Dl ≠ none := by rw [keep _ _ hA]; exact fun z => by cases z
    have erw := er1.wiped hn hD (e2.trans e23) st3 hD3
    have hdrop : items.drop i = d :: items.drop (i + 1) := by
      rw [List.drop_eq_getElem_cons hlt]
      rw [List.getElem?_eq_getElem hlt] at hd
      cases hd; rfl
    rw [hdrop] at hlc
    unfold lcL at hlc
    have rx2 : Rp C (mask H3 (Ms (fun a => S a ∨ a = Dl) (wipeC ρ own) (wipe σ own))) x d := rx.mono fun b o q => by
      refine mask_some.mpr ?_
      rcases hG' b o q with q | ⟨q, q'⟩
      · obtain ⟨q1, q2⟩ := mask_some.mp q
        refine ⟨fun z => ?_, keep _ _ (e2 b o (fun z => q1 (by rw [z]; exact mo1.s)) (fun z => q1 (by rw [z]; exact mo1.c)) q2)⟩
        rcases z with (z | z) | z
        · exact q1 (.inl z)
        · rw [z, hD] at q2; cases q2
        · exact q1 (.inr ((own_wipe hn b).mp z))
      · refine ⟨fun z => ?_, q'⟩
        rcases z with (z | z) | z
        · exact (er1.ext e2 st2).mok.x b (.inl z) q
        · exact hDn (by rw [← z]; exact q)
        · exact (er1.ext e2 st2).mok.x b (.inr ((own_wipe hn b).mp z)) q
    refine ⟨fun a => S a ∨ a = Dl, wipeC ρ own, d, erw, rx2, wG_mono hlc fun ρ1 h σ1 er2 shr tg => ⟨wipe_same (by rw [er2.len, tg.1, wipeC_length, ← er.len]) (fun j hj => by rw [(tg.2 own htg j hj).2, wipe_get hj]), ⟨fun a => S a ∨ a = Dl, ρ1, er2, (mono ifm).ts h fun b h H4 e4 st4 => ?_⟩⟩⟩
    · have hA4 : H4 Dl = some (.lst acc) := e4 _ _ nD.1 nD.2 (keep _ _ hA)
      have sub4 : Sub (mask H2 fun a => Ms S ρ σ a ∨ a = Dl) (mask H4 fun a => Ms S ρ σ a ∨ a = Dl) := mask_mono fun a o h1 h2 => ⟨h1, e4 a o (fun z => h1 (.inl (by rw [z]; exact mo1.s))) (fun z => h1 (.inl (by rw [z]; exact mo1.c))) (keep a o h2)⟩
      cases b with
      | false => exact ⟨rfl, hlt, acc, ds, hA4, by omega, rA.mono sub4, e2.trans (e23.trans e4), st4, h⟩
      | true =>
        refine ⟨fun a => S a ∨ a = Dl, ρ1, er2.ext e4 st4, wE_mono h fun y h v H5 e5 st5 rr => ?_⟩
        have hA5 : H5 Dl = some (.lst acc) := e5 _ _ nD.1 nD.2 hA4
        have lenA := rA.length
        refine ⟨acc, hA5, by omega, rfl, hlt, acc ++ [v], ds ++ [y], upd_same, by simp; omega, ?_, ?_, ?_, h⟩
        · have big : ∀ {a : Addr}, Ms S ρ σ a ∨ a = Dl → Ms (fun a => S a ∨ a = Dl) ρ1 σ1 a := fun {a} z => by
            rcases z with (z | ⟨j, dd, z1, z2⟩) | z
            · exact .inl (.inl z)
            · have hj : j ∉ own := fun q => hn j q dd z1
              obtain ⟨t1, t2⟩ := tg.2 own htg j hj
              refine .inr ⟨j, dd, ?_, ?_⟩
              · rw [t1, wipeC_get hj]; exact z1
              · rw [t2, wipe_get hj]; exact z2
            · exact .inl (.inr z)
          have s5 : ∀ {M' : Addr → Prop}, (∀ {a : Addr}, Ms S ρ σ a ∨ a = Dl → M' a) → Sub (mask H5 M') (mask (upd H5 Dl (.lst (acc ++ [v]))) fun a => Ms S ρ σ a ∨ a = Dl) := fun {M'} hM => mask_mono fun a o h1 h2 => ⟨fun z => h1 (hM z), by rw [upd_ne fun z => h1 (hM (.inr z))]; exact h2⟩
          refine RpA.append ?_ (.cons ((rr.r hb).mono (s5 big)) .nil)
          have s45 : Sub (mask H4 fun a => Ms S ρ σ a ∨ a = Dl) (mask H5 fun a => Ms S ρ σ a ∨ a = Dl) := mask_mono fun a o h1 h2 => ⟨h1, e5 a o (fun z => h1 (.inl (by rw [z]; exact mo1.s))) (fun z => h1 (.inl (by rw [z]; exact mo1.c))) h2⟩
          exact rA.mono (sub4.trans (s45.trans (s5 fun z => z)))
        · intro a o n1 n2 q
          rw [upd_ne (ne_of_none q hD)]
          exact e5 a o n1 n2 (e4 a o n1 n2 (keep a o (e2 a o n1 n2 q)))
        · exact st5.upd nD
  · left
    have e : i = items.length := by omega
    subst e
    refine ⟨(wk _ H2 e2).2 (Nat.le_refl _), ?_⟩
    rw [List.drop_eq_nil_of_le (Nat.le_refl _)] at hlc
    have f : FrV C H H2 (Ms S ρ σ) (.ref Dl) (.list ds) := ⟨Dl, rfl, e1.none st1 hD, .lst hA rA⟩
    exact hlc _ _ (e1.trans e2) st2 (.of (f.rp er.mok) fun _ _ => f)
theorem snd_lc {own : List Nat} {tgm itm ifm em : M} {t i x : Expr} {fs : List Expr} {scope : Scope} {pos : Pos} (g : Gd C T X N sc k) (hb : isBor em = false) (hblk : blkC N sc scope (ownP N own) = true) (hown : (ownP N own).map (·.2) = own) (hi : notSet i = true) (htg : tgIn tgm own = true)
    (sI : PI X t i (liftI C T.gs itm)) (sG : ∀ s H Ca cl fp, PG (X.blk s H scope (compEnvC scope cl Ca X.env) fp) t (liftG C tgm)) (sF : ∀ s H Ca cl fp, PTs (X.blk s H scope (compEnvC scope cl Ca X.env) fp) fs (liftTs C T.gs ifm)) (sE : ∀ s H Ca cl fp, PE (X.blk s H scope (compEnvC scope cl Ca X.env) fp) x (liftE C T.gs em)) :
    PE X (.ListComp x [⟨t, i, fs, 0⟩] scope pos) (liftE C T.gs (.lc own tgm itm ifm em)) := by
  have ok : BlkOk X.N X.env.scope scope (ownP N own) := by
    obtain ⟨o1, o2, o3, o4, o5⟩ := blkOk_by hblk
    rw [g.eN]
    refine ⟨o1, o2, o3, fun y hy e => ?_, o5⟩
    rcases g.es y.1 with q | ⟨q, q'⟩
    · rw [q]; exact o4 y hy e
    · exact .inl q'
  refine PE.imp (pe_lc g.calm (by rw [g.eN]; exact g.nd) sI ok sG sF sE (by intro z; cases i <;> first | rfl | cases hi)) fun σ H Q q => by rw [hown]; exact lc_key hb htg σ H Q q

/-! ### all expressions -/
def isE : M → Bool
  | .var _ | .bor _ | .int _ | .bl _ | .non | .str _ | .glob .. | .bin .. | .neg _ | .cmp .. | .chain .. | .andV .. | .orV .. | .notV _ | .ite .. | .tup _ | .lst _ | .ix .. | .slice .. | .rev _ | .call .. | .bi .. | .isi .. | .lc .. => true
  | _ => false
def isNC : M → Bool
  | .nil | .cons .. => true
  | _ => false
def isT : M → Bool
  | .cmpT .. | .chainT .. | .andT .. | .orT .. | .notT _ | .tru _ => true
  | _ => false
def isI : M → Bool
  | .rng1 .. | .rng2 .. | .rng3 .. | .enum _ | .zip .. | .revd _ | .seq _ => true
  | _ => false
theorem mtE_only {m : M} {x : Expr} (h : mtE T N m sc x = true) : isE m = true := by
  cases m <;> first
    | rfl
    | (simp [mtE] at h; done)
theorem mtP_only {m : M} {x : Option Expr} (h : mtP T N m sc x = true) : isNC m = true := by
  cases m <;> first
    | rfl
    | (simp [mtP] at h; done)
theorem mtA_only {m : M} {x : List Expr} (h : mtA T N m sc x = true) : isNC m = true := by
  cases m <;> first
    | rfl
    | (simp [mtA] at h; done)
theorem mtT_only {m : M} {x : Expr} (h : mtT T N m sc x = true) : isT m = true := by
  cases m <;> first
    | rfl
    | (simp [mtT] at h; done)
theorem mtTs_only {m : M} {x : List Expr} (h : mtTs T N m sc x = true) : isNC m = true := by
  cases m <;> first
    | rfl
    | (simp [mtTs] at h; done)
theorem mtI_only {m : M} {t x : Expr} (h : mtI T N m sc t x = true) : isI m = true := by
  cases m <;> first
    | rfl
    | (simp [mtI] at h; done)
theorem Snd.ofE {m : M} (h1 : isNC m = false) (h2 : isT m = false) (h3 : isI m = false) (h : ∀ {X : Cx} {N : List Str} {sc : Scope} {k : Nat} {x : Expr}, Gd C T X N sc k → mtE T N m sc x = true → PE X x (liftE C T.gs m)) : Snd C T m where
  e := h
  p := fun _ q => absurd (mtP_only q) (by rw [h1]; decide)
  a := fun _ q => absurd (mtA_only q) (by rw [h1]; decide)
  t := fun _ q => absurd (mtT_only q) (by rw [h2]; decide)
  ts := fun _ q => absurd (mtTs_only q) (by rw [h1]; decide)
  i := fun _ q => absurd (mtI_only q) (by rw [h3]; decide)
theorem Snd.ofT {m : M} (h1 : isNC m = false) (h2 : isE m = false) (h3 : isI m = false) (h : ∀ {X : Cx} {N : List Str} {sc : Scope} {k : Nat} {x : Expr}, Gd C T X N sc k → mtT T N m sc x = true → PT X x (liftT C T.gs m)) : Snd C T m where
  e := fun _ q => absurd (mtE_only q) (by rw [h2]; decide)
  p := fun _ q => absurd (mtP_only q) (by rw [h1]; decide)
  a := fun _ q => absurd (mtA_only q) (by rw [h1]; decide)
  t := h
  ts := fun _ q => absurd (mtTs_only q) (by rw [h1]; decide)
  i := fun _ q => absurd (mtI_only q) (by rw [h3]; decide)
theorem Snd.ofI {m : M} (h1 : isNC m = false) (h2 : isE m = false) (h3 : isT m = false) (h : ∀ {X : Cx} {N : List Str} {sc : Scope} {k : Nat} {tg x : Expr}, Gd C T X N sc k → mtI T N m sc tg x = true → PI X tg x (liftI C T.gs m)) : Snd C T m where
  e := fun _ q => absurd (mtE_only q) (by rw [h2]; decide)
  p := fun _ q => absurd (mtP_only q) (by rw [h1]; decide)
  a := fun _ q => absurd (mtA_only q) (by rw [h1]; decide)
  t := fun _ q => absurd (mtT_only q) (by rw [h3]; decide)
  ts := fun _ q => absurd (mtTs_only q) (by rw [h1]; decide)
  i := h
theorem Snd.no {m : M} (h1 : isNC m = false) (h2 : isE m = false) (h3 : isT m = false) (h4 : isI m = false) : Snd C T m := Snd.ofI h1 h2 h3 fun _ q => absurd (mtI_only q) (by rw [h4]; decide)
theorem dbg_of {x : Str} (h : notDbg x = true) : (x == ("__debug__" : Str)) = false ∧ (x == ("__classdict__" : Str)) = false := by
  unfold notDbg at h
  simpa using h

theorem snd (m : M) : Snd C T m := by
  induction m with
  | var i =>
    refine .ofE rfl rfl rfl fun {X N sc k x} g h => ?_
    cases x <;> simp only [mtE, Bool.and_eq_true, decide_eq_true_eq] at h <;> try (cases h; done)
    refine PE.imp (pe_var (i := i) (by rw [g.eN]; exact h.1.1) (g.vis h.1.2) (dbg_of h.2).1 (dbg_of h.2).2) ?_
    rintro σ H Q ⟨S, ρ, er, w⟩
    simp only [wE] at w
    split at w
    · rename_i d hd
      obtain ⟨v, h1, h2⟩ := er.sh i d hd
      exact ⟨v, h1, w v H Ext.refl er.st (.of h2 fun z => by cases z)⟩
    · exact w.elim
  | bor i =>
    refine .ofE rfl rfl rfl fun {X N sc k x} g h => ?_
    cases x <;> simp only [mtE, Bool.and_eq_true, decide_eq_true_eq] at h <;> try (cases h; done)
    refine PE.imp (pe_var (i := i) (by rw [g.eN]; exact h.1.1) (g.vis h.1.2) (dbg_of h.2).1 (dbg_of h.2).2) ?_
    rintro σ H Q ⟨S, ρ, er, w⟩
    simp only [wE] at w
    split at w
    · rename_i d hd
      obtain ⟨v, h1, h2⟩ := er.sh i d hd
      exact ⟨v, h1, w v H Ext.refl er.st (.of h2 fun z => by cases z)⟩
    · rename_i d hd
      obtain ⟨a, h1, h2, h3⟩ := er.ow i d hd
      exact ⟨_, h1, w _ H Ext.refl er.st ⟨.inr ⟨a, rfl, fun z => h2 (by rw [z]; exact er.mo.s), fun z => h2 (by rw [z]; exact er.mo.c), h3⟩, fun z => Bool.noConfusion z, fun z => Bool.noConfusion z⟩⟩
    · exact w.elim
  | int i =>
    refine .ofE rfl rfl rfl fun {X N sc k x} g h => ?_
    cases x <;> try (simp only [mtE] at h; cases h; done)
    rename_i c _ _
    cases c <;> simp only [mtE, decide_eq_true_eq] at h <;> try (cases h; done)
    subst h
    exact snd_const (v := .int i) pe_int (fun ρ Q w => by simpa only [wE] using w) (fun _ => .int _) rfl
  | bl i =>
    refine .ofE rfl rfl rfl fun {X N sc k x} g h => ?_
    cases x <;> try (simp only [mtE] at h; cases h; done)
    rename_i c _ _
    cases c <;> simp only [mtE, decide_eq_true_eq] at h <;> try (cases h; done)
    subst h
    exact snd_const (v := .bl i) pe_bl (fun ρ Q w => by simpa only [wE] using w) (fun _ => .bl _) rfl
  | non =>
    refine .ofE rfl rfl rfl fun {X N sc k x} g h => ?_
    cases x <;> try (simp only [mtE] at h; cases h; done)
    rename_i c _ _
    cases c <;> try (simp only [mtE] at h; cases h; done)
    exact snd_const (v := .non) pe_non (fun ρ Q w => by simpa only [wE] using w) (fun _ => .non) rfl
  | str i =>
    refine .ofE rfl rfl rfl fun {X N sc k x} g h => ?_
    cases x <;> try (simp only [mtE] at h; cases h; done)
    rename_i c _ _
    cases c <;> simp only [mtE, decide_eq_true_eq] at h <;> try (cases h; done)
    subst h
    exact snd_const (v := .str i) pe_str (fun ρ Q w => by simpa only [wE] using w) (fun _ => .str _) rfl
  | glob y i =>
    refine .ofE rfl rfl rfl fun {X N sc k x} g h => ?_
    cases x <;> simp only [mtE, Bool.and_eq_true, decide_eq_true_eq] at h <;> try (cases h; done)
    obtain ⟨⟨⟨rfl, h2⟩, h3⟩, h4⟩ := h
    obtain ⟨t, ht⟩ := g.con _ _ h4
    exact snd_const (v := .int i) (pe_glob (g.gl h2) ht ⟨t, rfl⟩ (dbg_of h3).1) (fun ρ Q w => by simpa only [wE] using w) (fun _ => .int _) rfl
  | bin op a b iha ihb =>
    refine .ofE rfl rfl rfl fun {X N sc k x} g h => ?_
    cases x <;> simp only [mtE, Bool.and_eq_true, decide_eq_true_eq] at h <;> try (cases h; done)
    obtain ⟨⟨rfl, h2⟩, h3⟩ := h
    exact snd_bin g (iha.e g h2) (ihb.e g h3)
  | neg a iha =>
    refine .ofE rfl rfl rfl fun {X N sc k x} g h => ?_
    cases x <;> try (simp only [mtE] at h; cases h; done)
    rename_i op _ _
    cases op <;> simp only [mtE] at h <;> try (cases h; done)
    exact snd_neg (iha.e g h)
  | cmp op a b iha ihb =>
    refine .ofE rfl rfl rfl fun {X N sc k x} g h => ?_
    cases x <;> try (simp only [mtE] at h; cases h; done)
    rename_i l ops cs pos
    rcases ops with _ | ⟨o, _ | ⟨o2, ops⟩⟩ <;> rcases cs with _ | ⟨c, _ | ⟨c2, cs⟩⟩ <;> simp only [mtE, Bool.and_eq_true, decide_eq_true_eq] at h <;> try (cases h; done)
    obtain ⟨⟨⟨rfl, h2⟩, h3⟩, h4⟩ := h
    exact snd_cmpE g h2 (iha.e g h3) (ihb.e g h4)
  | chain o1 o2 a b c iha ihb ihc =>
    refine .ofE rfl rfl rfl fun {X N sc k x} g h => ?_
    cases x <;> try (simp only [mtE] at h; cases h; done)
    rename_i l ops cs pos
    rcases ops with _ | ⟨o, _ | ⟨o2, _ | ⟨o3, ops⟩⟩⟩ <;> rcases cs with _ | ⟨c, _ | ⟨c2, _ | ⟨c3, cs⟩⟩⟩ <;> simp only [mtE, Bool.and_eq_true, decide_eq_true_eq] at h <;> try (cases h; done)
    obtain ⟨⟨⟨⟨⟨⟨rfl, rfl⟩, h2⟩, h3⟩, h4⟩, h5⟩, h6⟩ := h
    exact snd_chainE g h2 h3 (iha.e g h4) (ihb.e g h5) (ihc.e g h6)
  | andV a b iha ihb =>
    refine .ofE rfl rfl rfl fun {X N sc k x} g h => ?_
    cases x <;> try (simp only [mtE] at h; cases h; done)
    rename_i op vs pos
    rcases vs with _ | ⟨y, _ | ⟨z, r⟩⟩ <;> cases op <;> simp only [mtE, Bool.and_eq_true, Bool.not_eq_true'] at h <;> try (cases h; done)
    cases r with
    | nil => exact snd_andE h.1.1 (iha.e g h.1.2) (pe_one (ihb.e g h.2))
    | cons y r => exact snd_andE h.1.1 (iha.e g h.1.2) (ihb.e g h.2)
  | orV a b iha ihb =>
    refine .ofE rfl rfl rfl fun {X N sc k x} g h => ?_
    cases x <;> try (simp only [mtE] at h; cases h; done)
    rename_i op vs pos
    rcases vs with _ | ⟨y, _ | ⟨z, r⟩⟩ <;> cases op <;> simp only [mtE, Bool.and_eq_true, Bool.not_eq_true'] at h <;> try (cases h; done)
    cases r with
    | nil => exact snd_orE h.1.1 (iha.e g h.1.2) (pe_one (ihb.e g h.2))
    | cons y r => exact snd_orE h.1.1 (iha.e g h.1.2) (ihb.e g h.2)
  | notV a iha =>
    refine .ofE rfl rfl rfl fun {X N sc k x} g h => ?_
    cases x <;> try (simp only [mtE] at h; cases h; done)
    rename_i op _ _
    cases op <;> simp only [mtE] at h <;> try (cases h; done)
    exact snd_notE (iha.e g h)
  | ite c a b ihc iha ihb =>
    refine .ofE rfl rfl rfl fun {X N sc k x} g h => ?_
    cases x <;> simp only [mtE, Bool.and_eq_true, Bool.not_eq_true'] at h <;> try (cases h; done)
    obtain ⟨⟨⟨⟨h1, h2⟩, h3⟩, h4⟩, h5⟩ := h
    exact snd_ite h1 h2 (ihc.t g h3) (iha.e g h4) (ihb.e g h5)
  | tup as ih =>
    refine .ofE rfl rfl rfl fun {X N sc k x} g h => ?_
    cases x <;> simp only [mtE, Bool.and_eq_true] at h <;> try (cases h; done)
    exact snd_tup h.1 (ih.a g h.2)
  | lst as ih =>
    refine .ofE rfl rfl rfl fun {X N sc k x} g h => ?_
    cases x <;> simp only [mtE, Bool.and_eq_true] at h <;> try (cases h; done)
    exact snd_lst h.1 (ih.a g h.2)
  | ix a b iha ihb =>
    refine .ofE rfl rfl rfl fun {X N sc k x} g h => ?_
    cases x <;> simp only [mtE, Bool.and_eq_true] at h <;> try (cases h; done)
    exact snd_ix g h.1.1 (iha.e g h.1.2) (ihb.e g h.2)
  | slice a lo hi iha ihl ihu =>
    refine .ofE rfl rfl rfl fun {X N sc k x} g h => ?_
    cases x <;> try (simp only [mtE] at h; cases h; done)
    rename_i y s pos
    cases s <;> try (simp only [mtE] at h; cases h; done)
    rename_i l u st p2
    cases st <;> simp only [mtE, Bool.and_eq_true] at h <;> try (cases h; done)
    exact snd_slice g (iha.e g h.1.1) (ihl.p g h.1.2) (ihu.p g h.2)
  | rev a iha =>
    refine .ofE rfl rfl rfl fun {X N sc k x} g h => ?_
    cases x <;> try (simp only [mtE] at h; cases h; done)
    rename_i y s pos
    cases s <;> try (simp only [mtE] at h; cases h; done)
    rename_i l u st p2
    cases l <;> cases u <;> cases st <;> try (simp only [mtE] at h; cases h; done)
    rename_i z
    cases z <;> try (simp only [mtE] at h; cases h; done)
    rename_i op z p3
    cases op <;> cases z <;> try (simp only [mtE] at h; cases h; done)
    rename_i c kk p4
    cases c <;> simp only [mtE, Bool.and_eq_true, decide_eq_true_eq] at h <;> try (cases h; done)
    obtain ⟨rfl, h⟩ := h
    exact snd_rev g (iha.e g h)
  | call gi as ih =>
    refine .ofE rfl rfl rfl fun {X N sc k x} g h => ?_
    cases x <;> try (simp only [mtE] at h; cases h; done)
    rename_i f args kws pos
    cases f <;> cases args <;> cases kws <;> simp only [mtE, Bool.and_eq_true, decide_eq_true_eq] at h <;> try (cases h; done)
    obtain ⟨⟨⟨⟨h1, h2⟩, h3⟩, h4⟩, h5⟩ := h
    exact snd_call g h1 h2 h3 h4 h5 (ih.a g h5)
  | bi b as ih =>
    refine .ofE rfl rfl rfl fun {X N sc k x} g h => ?_
    cases x <;> try (simp only [mtE] at h; cases h; done)
    rename_i f args kws pos
    cases f <;> cases args <;> cases kws <;> simp only [mtE, Bool.and_eq_true, decide_eq_true_eq] at h <;> try (cases h; done)
    obtain ⟨⟨⟨rfl, h2⟩, h3⟩, h5⟩ := h
    exact snd_bi g h2 h3 h5 (ih.a g h5)
  | isi a ty ih =>
    refine .ofE rfl rfl rfl fun {X N sc k x} g h => ?_
    cases x <;> try (simp only [mtE] at h; cases h; done)
    rename_i f args kws pos
    rcases args with _ | ⟨y, _ | ⟨z, _ | ⟨u, args⟩⟩⟩ <;> cases f <;> cases kws <;> try (simp only [mtE] at h; cases h; done)
    cases z <;> simp only [mtE, Bool.and_eq_true, decide_eq_true_eq] at h <;> try (cases h; done)
    obtain ⟨⟨⟨⟨⟨⟨rfl, h2⟩, rfl⟩, h4⟩, h5⟩, h6⟩, h7⟩ := h
    exact snd_isi g h2 h4 h5 h6 (ih.e g h7)
  | lc own tgm itm ifm em _ ihi ihf ihe =>
    refine .ofE rfl rfl rfl fun {X N sc k x} g h => ?_
    cases x <;> try (simp only [mtE] at h; cases h; done)
    rename_i y gens scope pos
    rcases gens with _ | ⟨⟨t, i, fs, as⟩, _ | ⟨g2, gens⟩⟩ <;> simp only [mtE, Bool.and_eq_true, Bool.not_eq_true', decide_eq_true_eq] at h <;> try (cases h; done)
    obtain ⟨⟨⟨⟨⟨⟨⟨⟨⟨rfl, h2⟩, h3⟩, h4⟩, h5⟩, h6⟩, h7⟩, h8⟩, h9⟩, h10⟩ := h
    exact snd_lc g h2 h3 h4 h5 h10 (ihi.i g h6) (fun s H Ca cl fp => (tg_sound (g.blk s H scope Ca cl fp) tgm).1 h7) (fun s H Ca cl fp => ihf.ts (g.blk s H scope Ca cl fp) h8) (fun s H Ca cl fp => ihe.e (g.blk s H scope Ca cl fp) h9)
  | nil =>
    refine ⟨fun _ q => absurd (mtE_only q) (by decide), fun {X N sc k x} g h => ?_, fun {X N sc k x} g h => ?_, fun _ q => absurd (mtT_only q) (by decide), fun {X N sc k x} g h => ?_, fun _ q => absurd (mtI_only q) (by decide)⟩
    · cases x <;> simp only [mtP] at h <;> try (cases h; done)
      refine ⟨fun pins s σ H Q I q => po_none.run pins s σ H Q I ?_⟩
      obtain ⟨S, ρ, er, w⟩ := q
      simp only [wP] at w
      exact w H Ext.refl er.st
    · cases x <;> simp only [mtA] at h <;> try (cases h; done)
      exact snd_nilA
    · cases x <;> simp only [mtTs] at h <;> try (cases h; done)
      refine PTs.imp pts_nil ?_
      rintro σ H Q ⟨S, ρ, er, w⟩
      simp only [wTs] at w
      exact w H Ext.refl er.st
  | cons a as iha ihas =>
    refine ⟨fun _ q => Bool.noConfusion (mtE_only q), fun {X N sc k x} g h => ?_, fun {X N sc k x} g h => ?_, fun _ q => Bool.noConfusion (mtT_only q), fun {X N sc k x} g h => ?_, fun _ q => Bool.noConfusion (mtI_only q)⟩
    · cases as <;> cases x <;> simp only [mtP] at h <;> try (cases h; done)
      refine ⟨fun pins s σ H Q I q => (po_some (iha.e g h)).run pins s σ H Q I ?_⟩
      obtain ⟨S, ρ, er, w⟩ := q
      simp only [wP] at w
      refine ⟨S, ρ, er, wE_mono w fun d ⟨i, e, h⟩ v H1 e1 s1 r1 => ?_⟩
      subst e
      exact ⟨i, r1.b.int, h H1 e1 s1⟩
    · cases x <;> simp only [mtA, Bool.and_eq_true] at h <;> try (cases h; done)
      exact snd_consA h.1.1 (iha.e g h.1.2) (ihas.a g h.2)
    · cases as <;> try (simp only [mtTs] at h; cases h; done)
      rcases x with _ | ⟨y, _ | ⟨z, x⟩⟩ <;> simp only [mtTs] at h <;> try (cases h; done)
      refine PTs.imp (pts_one (iha.t g h)) ?_
      rintro σ H Q ⟨S, ρ, er, w⟩
      simp only [wTs] at w
      exact ⟨S, ρ, er, w⟩
  | cmpT op a b iha ihb =>
    refine .ofT rfl rfl rfl fun {X N sc k x} g h => ?_
    cases x <;> try (simp only [mtT] at h; cases h; done)
    rename_i l ops cs pos
    rcases ops with _ | ⟨o, _ | ⟨o2, ops⟩⟩ <;> rcases cs with _ | ⟨c, _ | ⟨c2, cs⟩⟩ <;> simp only [mtT, Bool.and_eq_true, decide_eq_true_eq] at h <;> try (cases h; done)
    obtain ⟨⟨⟨rfl, h2⟩, h3⟩, h4⟩ := h
    exact snd_cmpT g h2 (iha.e g h3) (ihb.e g h4)
  | chainT o1 o2 a b c iha ihb ihc =>
    refine .ofT rfl rfl rfl fun {X N sc k x} g h => ?_
    cases x <;> try (simp only [mtT] at h; cases h; done)
    rename_i l ops cs pos
    rcases ops with _ | ⟨o, _ | ⟨o2, _ | ⟨o3, ops⟩⟩⟩ <;> rcases cs with _ | ⟨c, _ | ⟨c2, _ | ⟨c3, cs⟩⟩⟩ <;> simp only [mtT, Bool.and_eq_true, decide_eq_true_eq] at h <;> try (cases h; done)
    obtain ⟨⟨⟨⟨⟨⟨rfl, rfl⟩, h2⟩, h3⟩, h4⟩, h5⟩, h6⟩ := h
    exact snd_chainT g h2 h3 (iha.e g h4) (ihb.e g h5) (ihc.e g h6)
  | andT a b iha ihb =>
    refine .ofT rfl rfl rfl fun {X N sc k x} g h => ?_
    cases x <;> try (simp only [mtT] at h; cases h; done)
    rename_i op vs pos
    rcases vs with _ | ⟨y, _ | ⟨z, r⟩⟩ <;> cases op <;> simp only [mtT, Bool.and_eq_true] at h <;> try (cases h; done)
    cases r with
    | nil => exact (snd_andW (iha.t g h.1) (boolop_one (ihb.t g h.2))).pt
    | cons y r => exact (snd_andW (iha.t g h.1) (PT.pw (ihb.t g h.2))).pt
  | orT a b iha ihb =>
    refine .ofT rfl rfl rfl fun {X N sc k x} g h => ?_
    cases x <;> try (simp only [mtT] at h; cases h; done)
    rename_i op vs pos
    rcases vs with _ | ⟨y, _ | ⟨z, r⟩⟩ <;> cases op <;> simp only [mtT, Bool.and_eq_true] at h <;> try (cases h; done)
    cases r with
    | nil => exact (snd_orW (iha.t g h.1) (boolop_one (ihb.t g h.2))).pt
    | cons y r => exact (snd_orW (iha.t g h.1) (PT.pw (ihb.t g h.2))).pt
  | notT a iha =>
    refine .ofT rfl rfl rfl fun {X N sc k x} g h => ?_
    cases x <;> try (simp only [mtT] at h; cases h; done)
    rename_i op _ _
    cases op <;> simp only [mtT] at h <;> try (cases h; done)
    exact snd_notT (iha.t g h)
  | tru a iha =>
    refine .ofT rfl rfl rfl fun {X N sc k x} g h => ?_
    simp only [mtT, Bool.and_eq_true] at h
    exact snd_tru g h.1 (iha.e g h.2)
  | rng1 a iha =>
    refine .ofI rfl rfl rfl fun {X N sc k tg x} g h => ?_
    cases x <;> try (simp only [mtI] at h; cases h; done)
    rename_i f args kws pos
    rcases args with _ | ⟨y, _ | ⟨z, args⟩⟩ <;> cases f <;> cases kws <;> simp only [mtI, Bool.and_eq_true, decide_eq_true_eq] at h <;> try (cases h; done)
    obtain ⟨⟨⟨rfl, h2⟩, h3⟩, h4⟩ := h
    exact snd_rng1 g h2 h3 (iha.e g h4)
  | rng2 a b iha ihb =>
    refine .ofI rfl rfl rfl fun {X N sc k tg x} g h => ?_
    cases x <;> try (simp only [mtI] at h; cases h; done)
    rename_i f args kws pos
    rcases args with _ | ⟨y, _ | ⟨z, _ | ⟨u, args⟩⟩⟩ <;> cases f <;> cases kws <;> simp only [mtI, Bool.and_eq_true, decide_eq_true_eq] at h <;> try (cases h; done)
    obtain ⟨⟨⟨⟨⟨rfl, h2⟩, h3⟩, h4⟩, h5⟩, h6⟩ := h
    exact snd_rng2 g h2 h3 h4 (iha.e g h5) (ihb.e g h6)
  | rng3 a b c iha ihb ihc =>
    refine .ofI rfl rfl rfl fun {X N sc k tg x} g h => ?_
    cases x <;> try (simp only [mtI] at h; cases h; done)
    rename_i f args kws pos
    rcases args with _ | ⟨y, _ | ⟨z, _ | ⟨u, _ | ⟨u2, args⟩⟩⟩⟩ <;> cases f <;> cases kws <;> simp only [mtI, Bool.and_eq_true, decide_eq_true_eq] at h <;> try (cases h; done)
    obtain ⟨⟨⟨⟨⟨⟨⟨rfl, h2⟩, h3⟩, h4⟩, h5⟩, h6⟩, h7⟩, h8⟩ := h
    exact snd_rng3 g h2 h3 h4 h5 (iha.e g h6) (ihb.e g h7) (ihc.e g h8)
  | enum a iha =>
    refine .ofI rfl rfl rfl fun {X N sc k tg x} g h => ?_
    cases x <;> try (simp only [mtI] at h; cases h; done)
    rename_i f args kws pos
    rcases args with _ | ⟨y, _ | ⟨z, args⟩⟩ <;> cases f <;> cases kws <;> simp only [mtI, Bool.and_eq_true, decide_eq_true_eq] at h <;> try (cases h; done)
    obtain ⟨⟨⟨⟨rfl, h2⟩, h3⟩, h4⟩, h5⟩ := h
    exact snd_enum g h2 h3 h4 (iha.e g h5)
  | zip a b iha ihb =>
    refine .ofI rfl rfl rfl fun {X N sc k tg x} g h => ?_
    cases x <;> try (simp only [mtI] at h; cases h; done)
    rename_i f args kws pos
    rcases args with _ | ⟨y, _ | ⟨z, _ | ⟨u, args⟩⟩⟩ <;> cases f <;> cases kws <;> simp only [mtI, Bool.and_eq_true, decide_eq_true_eq] at h <;> try (cases h; done)
    obtain ⟨⟨⟨⟨⟨⟨rfl, h2⟩, h3⟩, h4⟩, h5⟩, h6⟩, h7⟩ := h
    exact snd_zip g h2 h3 h4 h5 (iha.e g h6) (ihb.e g h7)
  | revd a iha =>
    refine .ofI rfl rfl rfl fun {X N sc k tg x} g h => ?_
    cases x <;> try (simp only [mtI] at h; cases h; done)
    rename_i f args kws pos
    rcases args with _ | ⟨y, _ | ⟨z, args⟩⟩ <;> cases f <;> cases kws <;> simp only [mtI, Bool.and_eq_true, decide_eq_true_eq] at h <;> try (cases h; done)
    obtain ⟨⟨⟨rfl, h2⟩, h3⟩, h4⟩ := h
    exact snd_revd g h2 h3 (iha.e g h4)
  | seq a iha =>
    refine .ofI rfl rfl rfl fun {X N sc k tg x} g h => ?_
    simp only [mtI] at h
    exact snd_seqI g (iha.e g h)
  | _ => exact .no rfl rfl rfl rfl
end
end Mp

/-! Mini, part K: statements. -/
namespace Mp
open PySem PySem.Spec PyProof.Rows L2

/-- the names that a tuple's stores take from the right (none: in order) -/
def swp (sc : Scope) (ts vs : List Expr) : Option (Option (List Str)) :=
  if !(ts.length == 2 || ts.length == 3) || vs.length != ts.length then some none
  else if (vs.any fun | .Starred .. => true | _ => false) = true then some none
  else
    let line := (ts.head?.map (·.pos.line)).getD 0
    let names := ts.filterMap fun
      | .Name id pos => if sc.names.lookup id == some .local && pos.line == line then some id else none
      | _ => none
    if names.length != ts.length || names.eraseDups.length != names.length then some none
    else if vs.all (foldedForSure 8) then some none
    else if vs.all (constantsAlone 8) then none
    else some (some names)
/-- does a comprehension go straight into a name? -/
def swC (sc : Scope) (t : Str) (tp : Pos) (v : Expr) : Bool := match v with
  | .ListComp _ _ scope _ => sc.names.lookup t == some .local && tp.line == v.pos.line && !(scope.names.any fun (n, k) => n == t && (k == .local || k == .cell))
  | _ => false
def lcOf : Expr → Bool
  | .ListComp _ [_] _ _ => true
  | _ => false

variable (T : TB) (N : List Str)
mutual
def mtS : S → Scope → List Stmt → Bool
  | .nil, _, [] => true
  | .seq a b, sc, st :: rest => mt1 a sc st && mtS b sc rest
  | _, _, _ => false
termination_by structural s => s
def mt1 : S → Scope → Stmt → Bool
  | .pass, _, .Pass _ => true
  | .set i e, sc, .Assign [.Name x px] y _ => decide (N[i]? = some x) && locB sc x && !isBor e && (!isComp y || (lcOf y && !swC sc x px y)) && mtE T N e sc y
  | .setO i e, sc, .Assign [.Name x px] y _ => decide (N[i]? = some x) && locB sc x && isFr e && (!isComp y || (lcOf y && !swC sc x px y)) && mtE T N e sc y
  | .setLc _ i (.lc own tg it ifs elt), sc, .Assign [.Name x px] (.ListComp y [⟨t, ie, fs, as⟩] scope p) _ => decide (N[i]? = some x) && swC sc x px (.ListComp y [⟨t, ie, fs, as⟩] scope p) && mtE T N (.lc own tg it ifs elt) sc (.ListComp y [⟨t, ie, fs, as⟩] scope p)
  | .asg t e, sc, .Assign [.Tuple ts k p] y _ => !isBor e && (match y with | .Tuple vs _ _ => (match swp sc ts vs with | some none => true | _ => false) | _ => true) && mtG N t sc (.Tuple ts k p) && mtE T N e sc y
  | .par2 i j oi oj a b, sc, .Assign [.Tuple [.Name x px, .Name y py] _ _] (.Tuple [e, f] _ _) _ => decide (N[i]? = some x) && decide (N[j]? = some y) && decide (i ≠ j) && decide (sc.names.lookup x = some .local) && decide (sc.names.lookup y = some .local) && notStar e && notStar f &&
      (match swp sc [.Name x px, .Name y py] [e, f] with | some (some [u, v]) => decide (u = x) && decide (v = y) | _ => false) && (if oi then isFr a else !isBor a) && (if oj then isFr b else !isBor b) && mtE T N a sc e && mtE T N b sc f
  | .par3 i j l oi oj ol a b c, sc, .Assign [.Tuple [.Name x px, .Name y py, .Name z pz] _ _] (.Tuple [e, f, h] _ _) _ => decide (N[i]? = some x) && decide (N[j]? = some y) && decide (N[l]? = some z) && decide (i ≠ j) && decide (i ≠ l) && decide (j ≠ l) && decide (sc.names.lookup x = some .local) && decide (sc.names.lookup y = some .local) && decide (sc.names.lookup z = some .local) && notStar e && notStar f && notStar h &&
      (match swp sc [.Name x px, .Name y py, .Name z pz] [e, f, h] with | some (some [u, v, w]) => decide (u = x) && decide (v = y) && decide (w = z) | _ => false) && (if oi then isFr a else !isBor a) && (if oj then isFr b else !isBor b) && (if ol then isFr c else !isBor c) && mtE T N a sc e && mtE T N b sc f && mtE T N c sc h
  | .aug i op e, sc, .AugAssign (.Name x _) o y _ => decide (N[i]? = some x) && locB sc x && decide (opOf op = o) && (match op with | .add | .sub => true | _ => false) && mtE T N e sc y
  | .setIx i k e, sc, .Assign [.Subscript (.Name x _) ky _] y _ => decide (N[i]? = some x) && visB sc x && notDbg x && notSlice ky && !isBor e && !isComp y && mtE T N k sc ky && mtE T N e sc y
  | .augIx i op k e, sc, .AugAssign (.Subscript (.Name x _) ky _) o y _ => decide (N[i]? = some x) && visB sc x && notDbg x && notSlice ky && decide (opOf op = o) && (match op with | .add | .sub => true | _ => false) && mtE T N k sc ky && mtE T N e sc y
  | .app i e, sc, .Expr (.Call (.Attribute (.Name x _) m ap) [y] [] cp) _ => (ap.endLine == cp.line) && decide (N[i]? = some x) && visB sc x && notDbg x && decide (m = "append") && notStar y && !isBor e && mtE T N e sc y
  | .ext i e, sc, .Expr (.Call (.Attribute (.Name x _) m ap) [y] [] cp) _ => (ap.endLine == cp.line) && decide (N[i]? = some x) && visB sc x && notDbg x && decide (m = "extend") && notStar y && mtE T N e sc y
  | .popD i, sc, .Expr (.Call (.Attribute (.Name x _) m ap) [] [] cp) _ => (ap.endLine == cp.line) && decide (N[i]? = some x) && visB sc x && notDbg x && decide (m = "pop")
  | .popT t i, sc, .Assign [tg] (.Call (.Attribute (.Name x _) m ap) [] [] cp) _ => (ap.endLine == cp.line) && decide (N[i]? = some x) && visB sc x && notDbg x && decide (m = "pop") && notStar tg && mtG N t sc tg
  | .ite c a b, sc, .If t xs ys _ => mtT T N c sc t && mtS a sc xs && mtS b sc ys
  | .whl c b, sc, .While t xs [] _ => mtT T N c sc t && mtS b sc xs
  | .for_ t it b, sc, .For tg ie xs [] _ => notSet ie && strictI it && mtG N t sc tg && mtI T N it sc tg ie && mtS b sc xs
  | .ret e, sc, .Return (some y) _ => !isBor e && mtE T N e sc y
  | .retN, _, .Return none _ => true
  | .never, _, _ => true
  | .frz _ s, sc, st => mt1 s sc st
  | .mv i j, sc, .Assign [.Name x _] (.Name y _) _ => decide (N[i]? = some x) && locB sc x && decide (N[j]? = some y) && visB sc y && notDbg y
  | _, _, _ => false
termination_by structural s => s
end
end Mp

/-! Mini, part L: the statements keep the small meaning. -/
namespace Mp
open PySem PySem.Spec PyProof.Rows L2
section
variable {C : MC} {S' : Addr → Prop} {ρ : Ev} {σ : L2.St} {H H' : Hp} {v : V} {d : D} {i : Nat}
/-- a new list or dict becomes the frame's own -/
theorem ER.setOw (r : ER C S' ρ σ H) (e : Ext C H H') (st : StOk C H') (f : FrV C H H' (Ms S' ρ σ) v d) (hi : i < ρ.length) : ER C S' (ρ.set i (.ow d)) (σ.set i (some v)) H' ∧ FrO C ρ σ H (ρ.set i (.ow d)) (σ.set i (some v)) H' := by
  obtain ⟨a, rfl, hn, ow⟩ := f
  have r1 := r.ext e st
  have hs : i < σ.length := by rw [r.len]; exact hi
  have nM : ¬ Ms S' ρ σ a := fun z => r.mok.x a z hn
  have own : ∀ b, Own (ρ.set i (.ow d)) (σ.set i (some (.ref a))) b → Own ρ σ b ∨ b = a := fun b ⟨j, x, h1, h2⟩ => by
    by_cases hij : i = j
    · subst hij
      rw [List.getElem?_set_self hs] at h2
      cases h2
      exact .inr rfl
    · rw [List.getElem?_set_ne hij] at h1 h2
      exact .inl ⟨j, x, h1, h2⟩
  have sub : Sub (mask H (Ms S' ρ σ)) (mask H' (Ms S' (ρ.set i (.ow d)) (σ.set i (some (.ref a))))) := mask_mono fun b o h1 h2 => by
    refine ⟨fun z => ?_, e b o (fun z => h1 (by rw [z]; exact r.mok.s)) (fun z => h1 (by rw [z]; exact r.mok.c)) h2⟩
    rcases z with z | z
    · exact h1 (.inl z)
    · rcases own b z with z | z
      · exact h1 (.inr z)
      · rw [z, hn] at h2; cases h2
  have sub2 : Sub (mask H' fun b => Ms S' ρ σ b ∨ b = a) (mask H' (Ms S' (ρ.set i (.ow d)) (σ.set i (some (.ref a))))) := mask_mono fun b o h1 h2 => ⟨fun z => by
    rcases z with z | z
    · exact h1 (.inl (.inl z))
    · rcases own b z with z | z
      · exact h1 (.inl (.inr z))
      · exact h1 (.inr z), h2⟩
  refine ⟨⟨by rw [List.length_set, List.length_set]; exact r.len, fun j x h => ?_, fun j x h => ?_, fun j l x y b h1 h2 h3 h4 => ?_, st, r1.mo⟩, fun b o n1 n2 h q => ⟨e b o n1 n2 q, fun z => ?_⟩⟩
  · by_cases hij : i = j
    · subst hij
      rw [List.getElem?_set_self hi] at h; cases h
    · rw [List.getElem?_set_ne hij] at h
      obtain ⟨u, h1, h2⟩ := r.sh j x h
      exact ⟨u, by rw [List.getElem?_set_ne hij]; exact h1, h2.mono sub⟩
  · by_cases hij : i = j
    · subst hij
      rw [List.getElem?_set_self hi] at h
      cases h
      exact ⟨a, List.getElem?_set_self hs, fun z => nM (.inl z), ow.mono sub2 fun o q => q⟩
    · rw [List.getElem?_set_ne hij] at h
      obtain ⟨b, h1, h2, h3⟩ := r.ow j x h
      exact ⟨b, by rw [List.getElem?_set_ne hij]; exact h1, h2, h3.mono sub fun o q => e b o (fun z => h2 (by rw [z]; exact r.mo.s)) (fun z => h2 (by rw [z]; exact r.mo.c)) q⟩
  · by_cases hij : i = j
    · by_cases hil : i = l
      · exact hij.symm.trans hil
      · exfalso
        subst hij
        rw [List.getElem?_set_self hs] at h3
        cases h3
        rw [List.getElem?_set_ne hil] at h2 h4
        exact nM (.inr ⟨l, y, h2, h4⟩)
    · by_cases hil : i = l
      · exfalso
        subst hil
        rw [List.getElem?_set_self hs] at h4
        cases h4
        rw [List.getElem?_set_ne hij] at h1 h3
        exact nM (.inr ⟨j, x, h1, h3⟩)
      · rw [List.getElem?_set_ne hij] at h1 h3
        rw [List.getElem?_set_ne hil] at h2 h4
        exact r.dj j l x y b h1 h2 h3 h4
  · rcases own b z with z | z
    · exact h z
    · rw [z, hn] at q; cases q
/-- the frame's own list or dict is changed -/
theorem ER.upd {a : Addr} {o : HO} {d' : D} (r : ER C S' ρ σ H) (hi : ρ[i]? = some (.ow d)) (ha : σ[i]? = some (some (.ref a))) (ow : OwR C (L2.upd H a o) (Ms S' ρ σ) a d') :
    ER C S' (ρ.set i (.ow d')) σ (L2.upd H a o) ∧ FrO C ρ σ H (ρ.set i (.ow d')) σ (L2.upd H a o) := by
  have hl : i < ρ.length := by
    by_cases hl : i < ρ.length
    · exact hl
    · rw [List.getElem?_eq_none (by omega)] at hi; cases hi
  have own : ∀ b, Own (ρ.set i (.ow d')) σ b ↔ Own ρ σ b := fun b => by
    constructor
    · rintro ⟨j, x, h1, h2⟩
      by_cases hij : i = j
      · subst hij; exact ⟨i, d, hi, h2⟩
      · rw [List.getElem?_set_ne hij] at h1; exact ⟨j, x, h1, h2⟩
    · rintro ⟨j, x, h1, h2⟩
      by_cases hij : i = j
      · subst hij; exact ⟨i, d', List.getElem?_set_self hl, h2⟩
      · exact ⟨j, x, by rw [List.getElem?_set_ne hij]; exact h1, h2⟩
  have aM : Own ρ σ a := ⟨i, d, hi, ha⟩
  obtain ⟨a', ha', nS, owa⟩ := r.ow i d hi
  rw [ha] at ha'; cases ha'
  have nsc : a ≠ C.sA ∧ a ≠ C.cA := ⟨fun z => nS (by rw [z]; exact r.mo.s), fun z => nS (by rw [z]; exact r.mo.c)⟩
  have sub : Sub (mask H (Ms S' ρ σ)) (mask (L2.upd H a o) (Ms S' (ρ.set i (.ow d')) σ)) := mask_mono fun b u h1 h2 => ⟨fun z => h1 (z.imp id (own b).mp), by rw [upd_ne fun z => h1 (.inr (by rw [z]; exact aM))]; exact h2⟩
  have sub2 : Sub (mask (L2.upd H a o) (Ms S' ρ σ)) (mask (L2.upd H a o) (Ms S' (ρ.set i (.ow d')) σ)) := mask_mono fun b u h1 h2 => ⟨fun z => h1 (z.imp id (own b).mp), h2⟩
  refine ⟨⟨by rw [List.length_set]; exact r.len, fun j x h => ?_, fun j x h => ?_, fun j l x y b h1 h2 h3 h4 => ?_, r.st.upd nsc, ⟨r.mo.s, r.mo.c, fun b hb q => ?_⟩⟩, fun b u n1 n2 h q => ⟨?_, fun z => h ((own b).mp z)⟩⟩
  · by_cases hij : i = j
    · subst hij
      rw [List.getElem?_set_self hl] at h; cases h
    · rw [List.getElem?_set_ne hij] at h
      obtain ⟨u, h1, h2⟩ := r.sh j x h
      exact ⟨u, h1, h2.mono sub⟩
  · by_cases hij : i = j
    · subst hij
      rw [List.getElem?_set_self hl] at h
      cases h
      exact ⟨a, ha, nS, ow.mono sub2 fun o q => q⟩
    · rw [List.getElem?_set_ne hij] at h
      obtain ⟨b, h1, h2, h3⟩ := r.ow j x h
      have hb : b ≠ a := fun z => hij (r.dj i j d x a hi h ha (by rw [← z]; exact h1))
      exact ⟨b, h1, h2, h3.mono sub fun o q => by rw [upd_ne hb]; exact q⟩
  · have h1' : ∃ x, ρ[j]? = some (.ow x) := by
      by_cases hij : i = j
      · subst hij; exact ⟨d, hi⟩
      · rw [List.getElem?_set_ne hij] at h1; exact ⟨x, h1⟩
    have h2' : ∃ x, ρ[l]? = some (.ow x) := by
      by_cases hij : i = l
      · subst hij; exact ⟨d, hi⟩
      · rw [List.getElem?_set_ne hij] at h2; exact ⟨y, h2⟩
    obtain ⟨x', h1'⟩ := h1'
    obtain ⟨y', h2'⟩ := h2'
    exact r.dj j l x' y' b h1' h2' h3 h4
  · by_cases hb' : b = a
    · rw [hb', upd_same] at q; cases q
    · rw [upd_ne hb'] at q; exact r.mo.x b hb q
  · rw [upd_ne fun z => h (by rw [z]; exact aM)]; exact q
/-- a slot's own list is shared from here on -/
theorem ER.frz (r : ER C S' ρ σ H) (i : Nat) : ER C S' (frzC ρ i) σ H ∧ FrO C ρ σ H (frzC ρ i) σ H := by
  unfold frzC
  cases q : ρ[i]? with
  | none => exact ⟨r, FrO.refl⟩
  | some c =>
    cases c with
    | un => exact ⟨r, FrO.refl⟩
    | sh x => exact ⟨r, FrO.refl⟩
    | ow x =>
      have hl : i < ρ.length := by
        by_cases hl : i < ρ.length
        · exact hl
        · rw [List.getElem?_eq_none (by omega)] at q; cases q
      obtain ⟨a, ha, nS, owa⟩ := r.ow i x q
      have own : ∀ b, Own (ρ.set i (.sh x)) σ b → Own ρ σ b ∧ b ≠ a := fun b ⟨j, y, h1, h2⟩ => by
        by_cases hij : i = j
        · subst hij; rw [List.getElem?_set_self hl] at h1; cases h1
        · rw [List.getElem?_set_ne hij] at h1
          exact ⟨⟨j, y, h1, h2⟩, fun z => hij (r.dj i j x y a q h1 ha (by rw [← z]; exact h2))⟩
      have sub : Sub (mask H (Ms S' ρ σ)) (mask H (Ms S' (ρ.set i (.sh x)) σ)) := mask_mono fun b o h1 h2 => ⟨fun z => h1 (z.imp id fun z => (own b z).1), h2⟩
      refine ⟨⟨by rw [List.length_set]; exact r.len, fun j y h => ?_, fun j y h => ?_, fun j l y z b h1 h2 h3 h4 => ?_, r.st, r.mo⟩, FrO.shr fun b h => (own b h).1⟩
      · by_cases hij : i = j
        · subst hij
          rw [List.getElem?_set_self hl] at h
          cases h
          exact ⟨_, ha, (owa.mono sub fun o q => q).rp fun z => z.elim nS fun z => (own a z).2 rfl⟩
        · rw [List.getElem?_set_ne hij] at h
          obtain ⟨u, h1, h2⟩ := r.sh j y h
          exact ⟨u, h1, h2.mono sub⟩
      · by_cases hij : i = j
        · subst hij; rw [List.getElem?_set_self hl] at h; cases h
        · rw [List.getElem?_set_ne hij] at h
          obtain ⟨b, h1, h2, h3⟩ := r.ow j y h
          exact ⟨b, h1, h2, h3.mono sub fun o q => q⟩
      · have hj : i ≠ j := fun e => by subst e; rw [List.getElem?_set_self hl] at h1; cases h1
        have hl2 : i ≠ l := fun e => by subst e; rw [List.getElem?_set_self hl] at h2; cases h2
        rw [List.getElem?_set_ne hj] at h1
        rw [List.getElem?_set_ne hl2] at h2
        exact r.dj j l y z b h1 h2 h3 h4
/-- a slot's own list moves to another slot -/
theorem ER.mv {j : Nat} (r : ER C S' ρ σ H) (hj : ρ[j]? = some (.ow d)) (hij : i ≠ j) (hv : σ[j]? = some (some v)) (hi : i < ρ.length) : ER C S' ((ρ.set j .un).set i (.ow d)) (σ.set i (some v)) H ∧ FrO C ρ σ H ((ρ.set j .un).set i (.ow d)) (σ.set i (some v)) H := by
  have hl : j < ρ.length := by
    by_cases hl : j < ρ.length
    · exact hl
    · rw [List.getElem?_eq_none (by omega)] at hj; cases hj
  obtain ⟨a, ha, nS, owa⟩ := r.ow j d hj
  rw [hv] at ha; cases ha
  have hs : i < σ.length := by rw [r.len]; exact hi
  have hi2 : i < (ρ.set j .un).length := by rw [List.length_set]; exact hi
  have get : ∀ {l : Nat} {c : Cell}, ((ρ.set j .un).set i (.ow d))[l]? = some c → (l = i ∧ c = .ow d) ∨ (l = j ∧ c = .un) ∨ (l ≠ i ∧ l ≠ j ∧ ρ[l]? = some c) := fun {l c} h => by
    by_cases h1 : i = l
    · subst h1
      rw [List.getElem?_set_self hi2] at h; cases h; exact .inl ⟨rfl, rfl⟩
    · rw [List.getElem?_set_ne h1] at h
      by_cases h2 : j = l
      · subst h2
        rw [List.getElem?_set_self hl] at h; cases h; exact .inr (.inl ⟨rfl, rfl⟩)
      · rw [List.getElem?_set_ne h2] at h
        exact .inr (.inr ⟨fun z => h1 z.symm, fun z => h2 z.symm, h⟩)
  have own : ∀ b, Own ((ρ.set j .un).set i (.ow d)) (σ.set i (some (.ref a))) b → Own ρ σ b := fun b ⟨l, y, h1, h2⟩ => by
    rcases get h1 with ⟨rfl, e⟩ | ⟨rfl, e⟩ | ⟨n1, n2, h1⟩
    · rw [List.getElem?_set_self hs] at h2; cases h2
      exact ⟨j, d, hj, hv⟩
    · cases e
    · rw [List.getElem?_set_ne (Ne.symm n1)] at h2
      exact ⟨l, y, h1, h2⟩
  have sub : Sub (mask H (Ms S' ρ σ)) (mask H (Ms S' ((ρ.set j .un).set i (.ow d)) (σ.set i (some (.ref a))))) := mask_mono fun b o h1 h2 => ⟨fun z => h1 (z.imp id (own b)), h2⟩
  refine ⟨⟨by simp only [List.length_set]; exact r.len, fun l y h => ?_, fun l y h => ?_, fun l m y z b h1 h2 h3 h4 => ?_, r.st, r.mo⟩, FrO.shr own⟩
  · rcases get h with ⟨rfl, e⟩ | ⟨rfl, e⟩ | ⟨n1, n2, h1⟩
    · cases e
    · cases e
    · obtain ⟨u, q1, q2⟩ := r.sh l y h1
      exact ⟨u, by rw [List.getElem?_set_ne (Ne.symm n1)]; exact q1, q2.mono sub⟩
  · rcases get h with ⟨rfl, e⟩ | ⟨rfl, e⟩ | ⟨n1, n2, h1⟩
    · cases e
      exact ⟨a, List.getElem?_set_self hs, nS, owa.mono sub fun o q => q⟩
    · cases e
    · obtain ⟨b, q1, q2, q3⟩ := r.ow l y h1
      exact ⟨b, by rw [List.getElem?_set_ne (Ne.symm n1)]; exact q1, q2, q3.mono sub fun o q => q⟩
  · rcases get h1 with ⟨rfl, e⟩ | ⟨rfl, e⟩ | ⟨n1, n2, g0⟩
    · rw [List.getElem?_set_self hs] at h3; cases h3
      rcases get h2 with ⟨rfl, e'⟩ | ⟨rfl, e'⟩ | ⟨n3, n4, h2⟩
      · rfl
      · cases e'
      · rw [List.getElem?_set_ne (Ne.symm n3)] at h4
        exact absurd (r.dj j m d z a hj h2 hv h4).symm n4
    · cases e
    · rw [List.getElem?_set_ne (Ne.symm n1)] at h3
      rcases get h2 with ⟨rfl, e'⟩ | ⟨rfl, e'⟩ | ⟨n3, n4, g2⟩
      · rw [List.getElem?_set_self hs] at h4; cases h4
        exact absurd (r.dj j l d y a hj g0 hv h3).symm n2
      · cases e'
      · rw [List.getElem?_set_ne (Ne.symm n3)] at h4
        exact r.dj l m y z b g0 g2 h3 h4
end

/-- from here to a return: all but the frame's own stands -/
def FrR (C : MC) (ρ : Ev) (σ : L2.St) (H H' : Hp) : Prop := ∀ a o, a ≠ C.sA → a ≠ C.cA → ¬ Own ρ σ a → H a = some o → H' a = some o
theorem FrO.r {C : MC} {ρ ρ' : Ev} {σ σ' : L2.St} {H H' H2 : Hp} (f : FrO C ρ σ H ρ' σ' H') (h : FrR C ρ' σ' H' H2) : FrR C ρ σ H H2 := fun a o n1 n2 n3 e =>
  let ⟨h1, h2⟩ := f a o n1 n2 n3 e
  h a o n1 n2 h2 h1
def liftS (C : MC) (Γ : List Spc) (m : S) : TS := fun D σ H => ∃ S' ρ E, ER C S' ρ σ H ∧ wS Γ m E ρ ∧ (∀ ρ' σ' H', E.nx ρ' → ER C S' ρ' σ' H' → FrO C ρ σ H ρ' σ' H' → D.nx σ' H') ∧ (∀ d v H', E.rt d → FrR C ρ σ H H' → StOk C H' → Rp C (mask H' S') v d → D.rt v H')
theorem PS.imp {X : Cx} {e : Stmt} {t t' : TS} (h : PS X e t) (w : ∀ D σ H, t' D σ H → t D σ H) : PS X e t' := ⟨fun pins s σ H D I q => h.run pins s σ H D I (w D σ H q)⟩
theorem PSs.imp {X : Cx} {e : List Stmt} {t t' : TS} (h : PSs X e t) (w : ∀ D σ H, t' D σ H → t D σ H) : PSs X e t' := ⟨fun pins s σ H D I q => h.run pins s σ H D I (w D σ H q)⟩
end Mp

/-! Mini, part M: all statements, a def. -/
namespace Mp
open PySem PySem.Spec PyProof.Rows L2
structure GdS (C : MC) (T : TB) (X : Cx) (N : List Str) (sc : Scope) (k : Nat) : Prop where
  g : Gd C T X N sc k
  bk : X.env.blockKind = .function
  sc : ∀ x, X.env.kindOf x = sc.names.lookup x
section
variable {C : MC} {T : TB} {X : Cx} {N : List Str} {sc : Scope} {k : Nat}
theorem sw_lc (h : GdS C T X N sc k) {e : Expr} {gs : List Comprehension} {scope : Scope} {pos tp : Pos} {t : Str} {line : Nat} : swapsWith (.ListComp e gs scope pos) (some (.Name t tp)) line X.env = pure (swC sc t tp (.ListComp e gs scope pos)) := by
  show pure (X.env.blockKind == .function && X.env.kindOf t == some .local && tp.line == pos.line && !(scope.names.any fun (n, k) => n == t && (k == .local || k == .cell))) = _
  rw [h.bk, h.sc]
  rfl
theorem sw_name (h : GdS C T X N sc k) {y : Expr} {px : Pos} {x : Str} {line : Nat} (hy : (!isComp y || (lcOf y && !swC sc x px y)) = true) : swapsWith y (some (.Name x px)) line X.env = pure false := by
  cases y <;> first
    | rfl
    | skip
  · rename_i e gs scope pos
    rw [sw_lc h]
    have : swC sc x px (.ListComp e gs scope pos) = false := by
      simp only [isComp, Bool.not_true, Bool.false_or, Bool.and_eq_true, Bool.not_eq_true'] at hy
      exact hy.2
    rw [this]
  · simp [isComp, lcOf] at hy
  · simp [isComp, lcOf] at hy
theorem sw_other {y t : Expr} {line : Nat} {env : Env} (ht : ∀ x p, t ≠ .Name x p) : swapsWith y (some t) line env = pure false := by
  cases y <;> first
    | rfl
    | (cases t <;> first | rfl | exact absurd rfl (ht _ _))
theorem len_of (r : ER C S' ρ σ H) (g : Gd C T X N sc k) (I : σ.length = X.N.length) {i : Nat} {x : Str} (h : N[i]? = some x) : i < ρ.length := by
  rw [← r.len, I, g.eN]
  by_cases hl : i < N.length
  · exact hl
  · rw [List.getElem?_eq_none (by omega)] at h; cases h
/-- what is stored is shared, or the frame's own -/
theorem ER.store {S' : Addr → Prop} {ρ : Ev} {σ : L2.St} {H H1 : Hp} {v : V} {d : D} {i : Nat} {o : Bool} {m : M} (r : ER C S' ρ σ H) (e : Ext C H H1) (st : StOk C H1) (rr : RR C m H H1 (Ms S' ρ σ) v d) (hs : (if o = true then isFr m else !isBor m) = true) (hl : o = true → isL d = true) (hi : i < ρ.length) :
    ER C S' (ρ.set i (cellOf o d)) (σ.set i (some v)) H1 ∧ FrO C ρ σ H (ρ.set i (cellOf o d)) (σ.set i (some v)) H1 := by
  cases o with
  | true => exact r.setOw e st (rr.f (by simpa using hs) (hl rfl)) hi
  | false => exact ⟨(r.ext e st).setSh (rr.r (by simpa using hs)), (FrO.ext e).trans (FrO.shr fun a => Own.setSh fun d z => by cases z)⟩

theorem PS.len {st : Stmt} {t : TS} (h : PS X st fun D σ H => σ.length = X.N.length ∧ t D σ H) : PS X st t := ⟨fun pins s σ H D I q => h.run pins s σ H D I ⟨I.len, q⟩⟩
theorem PS.pre {st : Stmt} {t t' : TS} (h : PS X st t) (w : ∀ D σ H, σ.length = X.N.length → t' D σ H → t D σ H) : PS X st t' := ⟨fun pins s σ H D I q => h.run pins s σ H D I (w D σ H I.len q)⟩

theorem st_set {i : Nat} {o : Bool} {e : M} {x : Str} {px pos : Pos} {y : Expr} (h : GdS C T X N sc k) (hi : N[i]? = some x) (hx : locB sc x = true) (hs : (if o = true then isFr e else !isBor e) = true) (hy : (!isComp y || (lcOf y && !swC sc x px y)) = true) (hm : mtE T N e sc y = true) {m : S}
    (hw : ∀ E ρ, wS T.gs m E ρ → wE T.gs e ρ fun d => (o = true → isL d = true) ∧ E.nx (ρ.set i (cellOf o d))) : PS X (.Assign [.Name x px] y pos) (liftS C T.gs m) := by
  obtain ⟨hl, hf⟩ := h.g.loc hx
  refine PS.pre (ps_set (by rw [h.g.eN]; exact h.g.nd) (by rw [h.g.eN]; exact hi) hl ((snd e).e h.g hm) (sw_name h hy) hf) ?_
  rintro D σ H hlen ⟨S', ρ, E, er, w, wn, wr⟩
  refine ⟨S', ρ, er, wE_mono (hw E ρ w) fun d w v H1 e1 s1 rr => ?_⟩
  obtain ⟨q1, q2⟩ := er.store (i := i) e1 s1 rr hs w.1 (len_of er h.g hlen hi)
  exact wn _ _ _ w.2 q1 q2
theorem st_setLc {i : Nat} {o : Bool} {own : List Nat} {tgm itm ifm em : M} {x : Str} {px pos p : Pos} {y t ie : Expr} {fs : List Expr} {as : Int} {scope : Scope} (h : GdS C T X N sc k) (hi : N[i]? = some x) (hsw : swC sc x px (.ListComp y [⟨t, ie, fs, as⟩] scope p) = true) (hm : mtE T N (.lc own tgm itm ifm em) sc (.ListComp y [⟨t, ie, fs, as⟩] scope p) = true) :
    PS X (.Assign [.Name x px] (.ListComp y [⟨t, ie, fs, as⟩] scope p) pos) (liftS C T.gs (.setLc o i (.lc own tgm itm ifm em))) := by
  have hm0 := hm
  simp only [mtE, Bool.and_eq_true, Bool.not_eq_true', decide_eq_true_eq] at hm
  obtain ⟨⟨⟨⟨⟨⟨⟨⟨⟨rfl, h2⟩, h3⟩, h4⟩, h5⟩, h6⟩, h7⟩, h8⟩, h9⟩, h10⟩ := hm
  have hloc : X.env.scope.names.lookup x = some .local := by
    have : X.env.kindOf x = some .local := by
      rw [h.sc]
      unfold swC at hsw
      simp only [Bool.and_eq_true, beq_iff_eq] at hsw
      exact hsw.1.1
    exact this
  have ok : BlkOk X.N X.env.scope scope (ownP N own) := by
    obtain ⟨o1, o2, o3, o4, o5⟩ := blkOk_by h3
    rw [h.g.eN]
    refine ⟨o1, o2, o3, fun y hy e => ?_, o5⟩
    rw [show X.env.scope.names.lookup y.1 = sc.names.lookup y.1 from h.sc y.1]
    exact o4 y hy e
  have sI := (snd (C := C) (T := T) itm).i h.g h6
  have sG := fun s H Ca cl fp => (tg_sound (h.g.blk s H scope Ca cl fp) tgm).1 h7
  have sF := fun s H Ca cl fp => (snd (C := C) (T := T) ifm).ts (h.g.blk s H scope Ca cl fp) h8
  have sE := fun s H Ca cl fp => (snd (C := C) (T := T) em).e (h.g.blk s H scope Ca cl fp) h9
  refine PS.pre (ps_setLc h.g.calm (by rw [h.g.eN]; exact h.g.nd) (by rw [h.g.eN]; exact hi) hloc (by rw [sw_lc h, hsw]) sI ok sG sF sE (by intro z; cases ie <;> first | rfl | cases h5)) ?_
  rw [h4]
  rintro D σ H hlen ⟨S', ρ, E, er, w, wn, wr⟩
  simp only [wS] at w
  refine lc_key h2 h10 σ H _ ⟨S', ρ, er, wE_mono w fun d w v H1 e1 s1 rr => ?_⟩
  obtain ⟨q1, q2⟩ := er.store (i := i) (o := o) e1 s1 rr (by cases o <;> rfl) w.1 (len_of er h.g hlen hi)
  exact wn _ _ _ w.2 q1 q2

end
/-! ### the other stores -/
theorem swp_ok0 {env : Env} {sc : Scope} (hb : env.blockKind = .function) (hk : ∀ x, env.kindOf x = sc.names.lookup x) {ts vs : List Expr} {kk k2 : Nat} {p p2 : Pos} {r : Option (List Str)} (hr : swp sc ts vs = some r) : swappedStores [.Tuple ts kk p] (.Tuple vs k2 p2) env = pure r := by
  unfold swappedStores
  unfold swp at hr
  simp only [hb, hk]
  have e1 : (ScopeKind.function != ScopeKind.function) = false := rfl
  simp only [e1, Bool.or_false]
  split at hr
  · rename_i c
    cases hr
    rw [if_pos c]
  · rename_i c1
    rw [if_neg c1]
    split at hr
    · rename_i c
      cases hr
      exact if_pos c
    · rename_i c2
      refine (if_neg c2).trans ?_
      simp only at hr
      split at hr
      · rename_i c
        cases hr
        exact if_pos c
      · rename_i c3
        refine (if_neg c3).trans ?_
        split at hr
        · rename_i c
          cases hr
          exact if_pos c
        · rename_i c4
          refine (if_neg c4).trans ?_
          split at hr
          · cases hr
          · rename_i c5
            cases hr
            exact if_neg c5
section
variable {C : MC} {T : TB} {X : Cx} {N : List Str} {sc : Scope} {k : Nat}
theorem assign_tup {ts : List Expr} {kk : Nat} {p : Pos} {env : Env} : (assignEach [.Tuple ts kk p] env).map (·.2) = [assign (.Tuple ts kk p) env] := rfl
theorem st_asg {t e : M} {ts : List Expr} {kk : Nat} {p pos : Pos} {y : Expr} (h : GdS C T X N sc k) (hb : isBor e = false) (hsw : (match y with | .Tuple vs _ _ => (match swp sc ts vs with | some none => true | _ => false) | _ => true) = true) (hg : mtG N t sc (.Tuple ts kk p) = true) (hm : mtE T N e sc y = true) :
    PS X (.Assign [.Tuple ts kk p] y pos) (liftS C T.gs (.asg t e)) := by
  have hw : swappedStores [.Tuple ts kk p] y X.env = pure none := by
    cases y <;> first
      | rfl
      | skip
    rename_i vs k2 p2
    simp only at hsw
    split at hsw
    · rename_i q
      exact swp_ok0 h.bk h.sc q
    · cases hsw
  refine PS.imp (ps_asg ((snd e).e h.g hm) ((tg_sound h.g t).1 hg) (show swapsWith y (some (.Tuple ts kk p)) pos.line X.env = pure false from sw_other fun _ _ z => Expr.noConfusion z) hw assign_tup) ?_
  rintro D σ H ⟨S', ρ, E, er, w, wn, wr⟩
  simp only [wS] at w
  refine ⟨S', ρ, er, wE_mono w fun d w v H1 e1 s1 rr => ⟨S', ρ, d, er.ext e1 s1, rr.r hb, wG_mono w fun ρ1 w σ1 er1 shr tg => wn _ _ _ w er1 ((FrO.ext e1).trans (FrO.shr shr))⟩⟩
/-- ahead of the other operands a new list is masked -/
def pre1 (o : Bool) (S' : Addr → Prop) (v : V) : Addr → Prop := if o = true then fun b => S' b ∨ V.ref b = v else S'
section
variable {S' : Addr → Prop} {ρ ρ' : Ev} {σ σ' : L2.St} {H H1 H' : Hp} {v : V} {d : D} {i : Nat} {o : Bool} {m : M}
theorem ER.pre (r : ER C S' ρ σ H) (e : Ext C H H1) (st : StOk C H1) (rr : RR C m H H1 (Ms S' ρ σ) v d) (hs : (if o = true then isFr m else !isBor m) = true) (hl : o = true → isL d = true) : ER C (pre1 o S' v) ρ σ H1 := by
  cases o with
  | false => exact r.ext e st
  | true =>
    obtain ⟨a, rfl, hn, ow⟩ := rr.f (by simpa using hs) (hl rfl)
    obtain ⟨u, hu⟩ := ow.some
    have := r.wiped (vs := []) (Dl := a) (fun _ h => by cases h) hn e st (by rw [hu]; exact fun z => by cases z)
    have e2 : pre1 true S' (.ref a) = fun b => S' b ∨ b = a := by
      funext b
      simp only [pre1, if_true, V.ref.injEq]
    rw [e2]
    exact this
theorem ER.post (r : ER C S' ρ σ H) (e : Ext C H H1) (st : StOk C H1) (rr : RR C m H H1 (Ms S' ρ σ) v d) (hs : (if o = true then isFr m else !isBor m) = true) (hl : o = true → isL d = true) (r2 : ER C (pre1 o S' v) ρ' σ' H') (f : FrO C ρ σ H1 ρ' σ' H') (hi : i < ρ'.length) :
    ER C S' (ρ'.set i (cellOf o d)) (σ'.set i (some v)) H' ∧ FrO C ρ σ H (ρ'.set i (cellOf o d)) (σ'.set i (some v)) H' := by
  have r1 := r.pre (o := o) e st rr hs hl
  have f0 : FrO C ρ σ H ρ' σ' H' := (FrO.ext e).trans f
  cases o with
  | false =>
    have rp : Rp C (mask H' (Ms S' ρ' σ')) v d := (rr.r (by simpa using hs)).mono (f.sub (r.ext e st).mo)
    exact ⟨r2.setSh rp, f0.trans (FrO.shr fun a => Own.setSh fun d z => by cases z)⟩
  | true =>
    obtain ⟨a, rfl, hn, ow⟩ := rr.f (by simpa using hs) (hl rfl)
    have e2 : pre1 true S' (.ref a) = fun b => S' b ∨ b = a := by
      funext b
      simp only [pre1, if_true, V.ref.injEq]
    rw [e2] at r1 r2
    have hsg : i < σ'.length := by rw [r2.len]; exact hi
    have nS : ¬ S' a := fun z => r.mo.x a z hn
    have msEq : ∀ b, Ms (fun b => S' b ∨ b = a) ρ σ b → Ms S' ρ σ b ∨ b = a := fun b z => by
      rcases z with (z | z) | z
      · exact .inl (.inl z)
      · exact .inr z
      · exact .inl (.inr z)
    have ow' : OwR C H' (Ms (fun b => S' b ∨ b = a) ρ' σ') a d := by
      have s1 : Sub (mask H1 fun b => Ms S' ρ σ b ∨ b = a) (mask H1 (Ms (fun b => S' b ∨ b = a) ρ σ)) := mask_mono fun b u h1 h2 => ⟨fun z => h1 (msEq b z), h2⟩
      have na : ¬ Own ρ σ a := fun ⟨j, x, q1, q2⟩ => by
        obtain ⟨b, q3, q4, _⟩ := r1.ow j x q1
        rw [q2] at q3; cases q3
        exact q4 (.inr rfl)
      have nsc : a ≠ C.sA ∧ a ≠ C.cA := ⟨fun z => nS (by rw [z]; exact r.mo.s), fun z => nS (by rw [z]; exact r.mo.c)⟩
      exact ow.mono (s1.trans (f.sub r1.mo)) fun u q => (f a u nsc.1 nsc.2 na q).1
    have own : ∀ b, Own (ρ'.set i (.ow d)) (σ'.set i (some (.ref a))) b → Own ρ' σ' b ∨ b = a := fun b ⟨j, x, h1, h2⟩ => by
      by_cases hij : i = j
      · subst hij
        rw [List.getElem?_set_self hsg] at h2
        cases h2
        exact .inr rfl
      · rw [List.getElem?_set_ne hij] at h1 h2
        exact .inl ⟨j, x, h1, h2⟩
    have sub : Sub (mask H' (Ms (fun b => S' b ∨ b = a) ρ' σ')) (mask H' (Ms S' (ρ'.set i (.ow d)) (σ'.set i (some (.ref a))))) := mask_mono fun b u h1 h2 => ⟨fun z => by
      rcases z with z | z
      · exact h1 (.inl (.inl z))
      · rcases own b z with z | z
        · exact h1 (.inr z)
        · exact h1 (.inl (.inr z)), h2⟩
    refine ⟨⟨by rw [List.length_set, List.length_set]; exact r2.len, fun j x h => ?_, fun j x h => ?_, fun j l x y b h1 h2 h3 h4 => ?_, r2.st, ⟨r.mo.s, r.mo.c, fun b hb => r2.mo.x b (.inl hb)⟩⟩, fun b u n1 n2 h q => ⟨(f0 b u n1 n2 h q).1, fun z => ?_⟩⟩
    · by_cases hij : i = j
      · subst hij
        rw [List.getElem?_set_self hi] at h; cases h
      · rw [List.getElem?_set_ne hij] at h
        obtain ⟨w, h1, h2⟩ := r2.sh j x h
        exact ⟨w, by rw [List.getElem?_set_ne hij]; exact h1, h2.mono sub⟩
    · by_cases hij : i = j
      · subst hij
        rw [List.getElem?_set_self hi] at h
        cases h
        exact ⟨a, List.getElem?_set_self hsg, nS, ow'.mono sub fun o q => q⟩
      · rw [List.getElem?_set_ne hij] at h
        obtain ⟨b, h1, h2, h3⟩ := r2.ow j x h
        exact ⟨b, by rw [List.getElem?_set_ne hij]; exact h1, fun z => h2 (.inl z), h3.mono sub fun o q => q⟩
    · have no : ∀ {l : Nat} {y : D}, ρ'[l]? = some (.ow y) → σ'[l]? = some (some (V.ref a)) → False := fun {l y} q1 q2 => by
        obtain ⟨b, q3, q4, _⟩ := r2.ow l y q1
        rw [q2] at q3; cases q3
        exact q4 (.inr rfl)
      by_cases hij : i = j
      · by_cases hil : i = l
        · exact hij.symm.trans hil
        · exfalso
          subst hij
          rw [List.getElem?_set_self hsg] at h3
          cases h3
          rw [List.getElem?_set_ne hil] at h2 h4
          exact no h2 h4
      · by_cases hil : i = l
        · exfalso
          subst hil
          rw [List.getElem?_set_self hsg] at h4
          cases h4
          rw [List.getElem?_set_ne hij] at h1 h3
          exact no h1 h3
        · rw [List.getElem?_set_ne hij] at h1 h3
          rw [List.getElem?_set_ne hil] at h2 h4
          exact r2.dj j l x y b h1 h2 h3 h4
    · rcases own b z with z | z
      · exact (f0 b u n1 n2 h q).2 z
      · rw [z, hn] at q; cases q
end
theorem st_par2 {i j : Nat} {oi oj : Bool} {a b : M} {x y : Str} {px py pt pos : Pos} {kt k2 : Nat} {pt2 : Pos} {e f : Expr} (h : GdS C T X N sc k) (hi : N[i]? = some x) (hj : N[j]? = some y) (hij : i ≠ j) (hx : sc.names.lookup x = some .local) (hy : sc.names.lookup y = some .local) (he : notStar e = true) (hf : notStar f = true)
    (hsw : swp sc [.Name x px, .Name y py] [e, f] = some (some [x, y])) (ha : (if oi = true then isFr a else !isBor a) = true) (hb : (if oj = true then isFr b else !isBor b) = true) (ma : mtE T N a sc e = true) (mb : mtE T N b sc f = true) :
    PS X (.Assign [.Tuple [.Name x px, .Name y py] kt pt] (.Tuple [e, f] k2 pt2) pos) (liftS C T.gs (.par2 i j oi oj a b)) := by
  have lx : X.env.scope.names.lookup x = some .local := (h.sc x).trans hx
  have ly : X.env.scope.names.lookup y = some .local := (h.sc y).trans hy
  refine PS.pre (ps_par (i := i) (j := j) h.g.calm (by rw [h.g.eN]; exact h.g.nd) (by rw [h.g.eN]; exact hi) (by rw [h.g.eN]; exact hj) hij lx ly (pa_cons ((snd a).e h.g ma) (pa_cons ((snd b).e h.g mb) pa_nil (star_cons hf)) (star_cons he)) (swp_ok0 h.bk h.sc hsw)) ?_
  rintro D σ H hlen ⟨S', ρ, E, er, w, wn, wr⟩
  simp only [wS] at w
  have li := len_of er h.g hlen hi
  have lj := len_of er h.g hlen hj
  refine ⟨S', ρ, er, wE_mono w fun d w v H1 e1 s1 r1 => ?_⟩
  have hd := w.1
  have er1 := er.pre (o := oi) e1 s1 r1 ha hd
  refine ⟨_, ρ, er1, wE_mono w.2 fun d2 w u H2 e2 s2 r2 => ⟨v, u, rfl, ?_⟩⟩
  obtain ⟨q1, q2⟩ := er1.store (i := j) (o := oj) e2 s2 r2 hb w.1 lj
  obtain ⟨q3, q4⟩ := er.post (o := oi) (i := i) e1 s1 r1 ha hd q1 q2 (by rw [List.length_set]; exact li)
  rw [List.set_comm (l := ρ) _ _ hij.symm, List.set_comm (l := σ) _ _ hij.symm] at q3 q4
  exact wn _ _ _ w.2 q3 q4
theorem st_par3 {i j l : Nat} {oi oj ol : Bool} {a b c : M} {x y z : Str} {px py pz pt pos : Pos} {kt k2 : Nat} {pt2 : Pos} {e f q : Expr} (h : GdS C T X N sc k) (hi : N[i]? = some x) (hj : N[j]? = some y) (hl : N[l]? = some z) (hij : i ≠ j) (hil : i ≠ l) (hjl : j ≠ l) (hx : sc.names.lookup x = some .local) (hy : sc.names.lookup y = some .local) (hz : sc.names.lookup z = some .local)
    (he : notStar e = true) (hf : notStar f = true) (hq : notStar q = true)
    (hsw : swp sc [.Name x px, .Name y py, .Name z pz] [e, f, q] = some (some [x, y, z])) (ha : (if oi = true then isFr a else !isBor a) = true) (hb : (if oj = true then isFr b else !isBor b) = true) (hc : (if ol = true then isFr c else !isBor c) = true) (ma : mtE T N a sc e = true) (mb : mtE T N b sc f = true) (mc : mtE T N c sc q = true) :
    PS X (.Assign [.Tuple [.Name x px, .Name y py, .Name z pz] kt pt] (.Tuple [e, f, q] k2 pt2) pos) (liftS C T.gs (.par3 i j l oi oj ol a b c)) := by
  have lx : X.env.scope.names.lookup x = some .local := (h.sc x).trans hx
  have ly : X.env.scope.names.lookup y = some .local := (h.sc y).trans hy
  have lz : X.env.scope.names.lookup z = some .local := (h.sc z).trans hz
  refine PS.pre (ps_par3 (i := i) (j := j) (l := l) h.g.calm (by rw [h.g.eN]; exact h.g.nd) (by rw [h.g.eN]; exact hi) (by rw [h.g.eN]; exact hj) (by rw [h.g.eN]; exact hl) hij hil hjl lx ly lz (pa_cons ((snd a).e h.g ma) (pa_cons ((snd b).e h.g mb) (pa_cons ((snd c).e h.g mc) pa_nil (star_cons hq)) (star_cons hf)) (star_cons he)) (swp_ok0 h.bk h.sc hsw)) ?_
  rintro D σ H hlen ⟨S', ρ, E, er, w, wn, wr⟩
  simp only [wS] at w
  have li := len_of er h.g hlen hi
  have lj := len_of er h.g hlen hj
  have ll := len_of er h.g hlen hl
  refine ⟨S', ρ, er, wE_mono w fun d w v H1 e1 s1 r1 => ?_⟩
  have hd := w.1
  have er1 := er.pre (o := oi) e1 s1 r1 ha hd
  refine ⟨_, ρ, er1, wE_mono w.2 fun d2 w u H2 e2 s2 r2 => ?_⟩
  have hd2 := w.1
  have er2 := er1.pre (o := oj) e2 s2 r2 hb hd2
  refine ⟨_, ρ, er2, wE_mono w.2 fun d3 w w3 H3 e3 s3 r3 => ⟨v, u, w3, rfl, ?_⟩⟩
  obtain ⟨q1, q2⟩ := er2.store (i := l) (o := ol) e3 s3 r3 hc w.1 ll
  obtain ⟨q3, q4⟩ := er1.post (o := oj) (i := j) e2 s2 r2 hb hd2 q1 q2 (by rw [List.length_set]; exact lj)
  obtain ⟨q5, q6⟩ := er.post (o := oi) (i := i) e1 s1 r1 ha hd q3 q4 (by simp only [List.length_set]; exact li)
  have p1 : ((ρ.set l (cellOf ol d3)).set j (cellOf oj d2)).set i (cellOf oi d) = ((ρ.set i (cellOf oi d)).set j (cellOf oj d2)).set l (cellOf ol d3) := by
    rw [List.set_comm (l := ρ) _ _ hjl.symm, List.set_comm (l := ρ.set j _) _ _ hil.symm, List.set_comm (l := ρ) _ _ hij.symm]
  have p2 : ((σ.set l (some w3)).set j (some u)).set i (some v) = ((σ.set i (some v)).set j (some u)).set l (some w3) := by
    rw [List.set_comm (l := σ) _ _ hjl.symm, List.set_comm (l := σ.set j _) _ _ hil.symm, List.set_comm (l := σ) _ _ hij.symm]
  rw [p1, p2] at q5 q6
  exact wn _ _ _ w.2 q5 q6
theorem st_aug {i : Nat} {op : BOp} {e : M} {x : Str} {px pos : Pos} {y : Expr} (h : GdS C T X N sc k) (hi : N[i]? = some x) (hx : locB sc x = true) (ho : (match op with | .add | .sub => true | _ => false) = true) (hm : mtE T N e sc y = true) : PS X (.AugAssign (.Name x px) (opOf op) y pos) (liftS C T.gs (.aug i op e)) := by
  obtain ⟨hl, hf⟩ := h.g.loc hx
  have fin : ∀ {S' : Addr → Prop} {ρ : Ev} {E : En} {D : Ends} {σ : L2.St} {H H1 : Hp} {z : Int}, ER C S' ρ σ H → Ext C H H1 → StOk C H1 → E.nx (ρ.set i (.sh (.int z))) → (∀ ρ' σ' H', E.nx ρ' → ER C S' ρ' σ' H' → FrO C ρ σ H ρ' σ' H' → D.nx σ' H') → D.nx (σ.set i (some (.int z))) H1 := fun er e1 s1 w wn =>
    wn _ _ _ w ((er.ext e1 s1).setSh (.int _)) ((FrO.ext e1).trans (FrO.shr fun a => Own.setSh fun d z => by cases z))
  cases op <;> first
    | cases ho
    | skip
  · refine PS.imp (ps_aug (i := i) (by rw [h.g.eN]; exact h.g.nd) (by rw [h.g.eN]; exact hi) hl ((snd e).e h.g hm) ip_add hf) ?_
    rintro D σ H ⟨S', ρ, E, er, w, wn, wr⟩
    simp only [wS] at w
    split at w
    · rename_i d hd
      obtain ⟨v, h1, h2⟩ := er.sh i d hd
      refine ⟨v, h1, S', ρ, er, wE_mono w fun d2 ⟨a, b, ea, eb, w⟩ u H1 e1 s1 r1 => ?_⟩
      subst ea eb
      cases h2
      exact ⟨a, b, rfl, r1.b.int, fin er e1 s1 w wn⟩
    · exact w.elim
  · refine PS.imp (ps_aug (i := i) (by rw [h.g.eN]; exact h.g.nd) (by rw [h.g.eN]; exact hi) hl ((snd e).e h.g hm) ip_sub hf) ?_
    rintro D σ H ⟨S', ρ, E, er, w, wn, wr⟩
    simp only [wS] at w
    split at w
    · rename_i d hd
      obtain ⟨v, h1, h2⟩ := er.sh i d hd
      refine ⟨v, h1, S', ρ, er, wE_mono w fun d2 ⟨a, b, ea, eb, w⟩ u H1 e1 s1 r1 => ?_⟩
      subst ea eb
      cases h2
      exact ⟨a, b, rfl, r1.b.int, fin er e1 s1 w wn⟩
    · exact w.elim
/-- a slot's own list, read as a name -/
theorem pe_own {i : Nat} {x : Str} {px : Pos} (g : Gd C T X N sc k) (hi : N[i]? = some x) (hx : visB sc x = true) (hd : notDbg x = true) : PE X (.Name x px) (tVar i) := pe_var (by rw [g.eN]; exact hi) (g.vis hx) (dbg_of hd).1 (dbg_of hd).2
theorem owL_inv {ρ : Ev} {i : Nat} {F : List D → Prop} (h : owL ρ i F) : ∃ xs, ρ[i]? = some (.ow (.list xs)) ∧ F xs := by
  unfold owL at h
  split at h
  · exact ⟨_, by assumption, h⟩
  · exact h.elim
theorem ixN_lt {n : Nat} {i : Int} {j : Nat} (h : ixN n i = some j) : j < n := (ixN_seq h).2.1
/-- the frame's own list, ahead of a change -/
structure OwL (C : MC) (S' : Addr → Prop) (ρ : Ev) (σ : L2.St) (H : Hp) (i : Nat) (ds : List D) (a : Addr) (xs : List V) : Prop where
  s : σ[i]? = some (some (.ref a))
  h : H a = some (.lst xs)
  r : RpA C (mask H (Ms S' ρ σ)) xs ds
theorem ER.owl {S' : Addr → Prop} {ρ : Ev} {σ : L2.St} {H : Hp} {i : Nat} {ds : List D} (er : ER C S' ρ σ H) (hi : ρ[i]? = some (.ow (.list ds))) : ∃ a xs, OwL C S' ρ σ H i ds a xs := by
  obtain ⟨a, h1, h2, h3⟩ := er.ow i _ hi
  cases h3 with
  | lst h r => exact ⟨a, _, h1, h, r⟩
theorem OwL.ext {S' : Addr → Prop} {ρ : Ev} {σ : L2.St} {H H' : Hp} {i : Nat} {ds : List D} {a : Addr} {xs : List V} (o : OwL C S' ρ σ H i ds a xs) (er : ER C S' ρ σ H) (hi : ρ[i]? = some (.ow (.list ds))) (e : Ext C H H') : OwL C S' ρ σ H' i ds a xs := by
  obtain ⟨b, h1, h2, _⟩ := er.ow i _ hi
  rw [o.s] at h1; cases h1
  exact ⟨o.s, e _ _ (fun z => h2 (by rw [z]; exact er.mo.s)) (fun z => h2 (by rw [z]; exact er.mo.c)) o.h, o.r.mono (er.mok.sub e)⟩
theorem OwL.upd {S' : Addr → Prop} {ρ : Ev} {σ : L2.St} {H : Hp} {i : Nat} {ds ds' : List D} {a : Addr} {xs xs' : List V} (o : OwL C S' ρ σ H i ds a xs) (er : ER C S' ρ σ H) (hi : ρ[i]? = some (.ow (.list ds))) (r : RpA C (mask H (Ms S' ρ σ)) xs' ds') :
    ER C S' (ρ.set i (.ow (.list ds'))) σ (L2.upd H a (.lst xs')) ∧ FrO C ρ σ H (ρ.set i (.ow (.list ds'))) σ (L2.upd H a (.lst xs')) :=
  er.upd hi o.s (.lst upd_same (r.mono (mask_mono fun b u h1 h2 => ⟨h1, by rw [upd_ne fun z => h1 (.inr ⟨i, _, hi, by rw [z]; exact o.s⟩)]; exact h2⟩)))
theorem st_setIx {i : Nat} {kk e : M} {x : Str} {px p2 pos : Pos} {ky y : Expr} (h : GdS C T X N sc k) (hi : N[i]? = some x) (hx : visB sc x = true) (hd : notDbg x = true) (hs : notSlice ky = true) (hb : isBor e = false) (hc : isComp y = false) (mk : mtE T N kk sc ky = true) (hm : mtE T N e sc y = true) :
    PS X (.Assign [.Subscript (.Name x px) ky p2] y pos) (liftS C T.gs (.setIx i kk e)) := by
  refine PS.imp (ps_asg ((snd e).e h.g hm) (pg_sub (pe_own h.g hi hx hd) ((snd kk).e h.g mk) set_list (by intro v; cases ky <;> first | rfl | cases hs)) (show swapsWith y (some (.Subscript (.Name x px) ky p2)) pos.line X.env = pure false from sw_other fun _ _ z => Expr.noConfusion z) (by cases y <;> rfl) rfl) ?_
  rintro D σ H ⟨S', ρ, E, er, w, wn, wr⟩
  simp only [wS] at w
  obtain ⟨l, hl, w⟩ := owL_inv w
  obtain ⟨a, xs, o0⟩ := er.owl hl
  refine ⟨S', ρ, er, wE_mono w fun d w v H1 e1 s1 r1 => ?_⟩
  have er1 := er.ext e1 s1
  refine ⟨_, o0.s, S', ρ, er1, wE_mono w fun d2 w u H2 e2 s2 r2 => ?_⟩
  have er2 := er1.ext e2 s2
  have o := o0.ext er hl (e1.trans e2)
  obtain ⟨n, j, rfl, hj, w⟩ := w
  refine ⟨a, xs, n, j, rfl, r2.b.int, o.h, by rw [o.r.length]; exact hj, ?_⟩
  obtain ⟨f1, f2⟩ := o.upd er2 hl (o.r.set j ((r1.r hb).mono (er1.mok.sub e2)))
  exact wn _ _ _ w f1 ((FrO.ext (e1.trans e2)).trans f2)
theorem getItem_nat {X : Cx} : PGet X fun o i H Q => ∃ p xs j v, o = .ref p ∧ i = .int (j : Nat) ∧ H p = some (.lst xs) ∧ xs[j]? = some v ∧ Q v H := by
  intro pins s σ H o i ov iv Q I ro ri h
  obtain ⟨p, xs, j, v, rfl, rfl, hH, hv, q⟩ := h
  cases ro
  obtain ⟨t, rfl⟩ := ri
  obtain ⟨z, its, n, r, hl, e⟩ := I.lstM hH
  obtain ⟨u, hu, ru⟩ := r.get hv
  have hj : j < xs.length := by
    by_cases hj : j < xs.length
    · exact hj
    · rw [List.getElem?_eq_none (by omega)] at hv; cases hv
  have hb : (j : Int) < 2 ^ 63 := by
    have : (sizeLine : Nat) < 2 ^ 63 := line63
    omega
  exact wpAny_getItem_list (show s.heap.IsList p its.toArray from ⟨_, e, rfl, _, rfl⟩) (by omega) hb (by simpa using hu) ⟨v, H, I, ru, q⟩
theorem st_augIx {i : Nat} {op : BOp} {kk e : M} {x : Str} {px p2 pos : Pos} {ky y : Expr} (h : GdS C T X N sc k) (hi : N[i]? = some x) (hx : visB sc x = true) (hd : notDbg x = true) (hs : notSlice ky = true) (ho : (match op with | .add | .sub => true | _ => false) = true) (mk : mtE T N kk sc ky = true) (hm : mtE T N e sc y = true) :
    PS X (.AugAssign (.Subscript (.Name x px) ky p2) (opOf op) y pos) (liftS C T.gs (.augIx i op kk e)) := by
  have hau : ∀ ov iv new, augStore ky ov iv new = (do holding [new, ov, iv] (setItem ov iv new); release [new, ov, iv] []; pure .next) := by
    intro ov iv new
    cases ky <;> first | rfl | cases hs
  have key : ∀ {f : Int → Int → Int}, (∀ a b Q, binW op (.int a) (.int b) Q → Q (.int (f a b))) → ∀ D σ H, liftS C T.gs (.augIx i op kk e) D σ H → tAugS (tVar i) (liftE C T.gs kk) (liftE C T.gs e) (fun o i H Q => ∃ p xs j v, o = .ref p ∧ i = .int (j : Nat) ∧ H p = some (.lst xs) ∧ xs[j]? = some v ∧ Q v H) (ipI f) rSetL D σ H := by
    rintro f hf D σ H ⟨S', ρ, E, er, w, wn, wr⟩
    simp only [wS] at w
    obtain ⟨l, hl, w⟩ := owL_inv w
    obtain ⟨a, xs, o0⟩ := er.owl hl
    refine ⟨_, o0.s, S', ρ, er, wE_mono w fun d w v H1 e1 s1 r1 => ?_⟩
    have er1 := er.ext e1 s1
    have o := o0.ext er hl e1
    obtain ⟨n, p, rfl, hn, w⟩ := w
    obtain ⟨u, hu, ru⟩ := o.r.get hn
    refine ⟨a, xs, n, u, rfl, r1.b.int, o.h, hu, S', ρ, er1, wE_mono w fun d4 ⟨q, eq, w⟩ u2 H2 e2 s2 r2 => ?_⟩
    subst eq
    cases ru
    have er2 := er1.ext e2 s2
    have o2 := o.ext er1 hl e2
    have w := hf _ _ _ w
    have hlt : n < xs.length := by
      by_cases hlt : n < xs.length
      · exact hlt
      · rw [List.getElem?_eq_none (by omega)] at hu; cases hu
    refine ⟨p, q, rfl, r2.b.int, a, xs, _, n, rfl, r1.b.int, o2.h, by unfold ixN; rw [if_pos (by omega), if_pos (by omega)]; simp, ?_⟩
    obtain ⟨f1, f2⟩ := o2.upd er2 hl (o2.r.set n (.int _))
    exact wn _ _ _ w f1 ((FrO.ext (e1.trans e2)).trans f2)
  cases op <;> first
    | cases ho
    | skip
  · exact PS.imp (ps_augS (pe_own h.g hi hx hd) ((snd kk).e h.g mk) getItem_nat ((snd e).e h.g hm) ip_add set_list hau) (key fun a b Q q => q)
  · exact PS.imp (ps_augS (pe_own h.g hi hx hd) ((snd kk).e h.g mk) getItem_nat ((snd e).e h.g hm) ip_sub set_list hau) (key fun a b Q q => q)
theorem base_name {x : Str} {px : Pos} {m : Str} {env : Env} : attributeBase (.Name x px) m env (eval (.Name x px) env) = eval (.Name x px) env := rfl
theorem few_one {e : Expr} {env : Env} {cp : Pos} (he : notStar e = true) : ((backTo cp (starEach [e] env)).all (fun x => !x.1) && (backToKw cp (keywordEach [] env)).all (fun x => x.1.isSome)
      && decide ([e].length + ([] : List Keyword).length + (if ([] : List Keyword).isEmpty then 0 else 1) < 30)) = true := by
  rw [star_cons he]; rfl
theorem st_app {i : Nat} {e : M} {x : Str} {px ap cp pos : Pos} {y : Expr} (h : GdS C T X N sc k) (hp : (ap.endLine == cp.line) = true) (hi : N[i]? = some x) (hx : visB sc x = true) (hd : notDbg x = true) (hs : notStar y = true) (hb : isBor e = false) (hm : mtE T N e sc y = true) :
    PS X (.Expr (.Call (.Attribute (.Name x px) "append" ap) [y] [] cp) pos) (liftS C T.gs (.app i e)) := by
  refine PS.imp (ps_expr (pe_bm PySem.F.plainAttrs_list PySem.F.slot_list_append PySem.F.type_list_append mt_append (pe_own h.g hi hx hd) (pa_cons ((snd e).e h.g hm) pa_nil (star_cons hs)) base_name (few_one hs) hp (star_cons hs) (star_any fun _ z => by cases z))) ?_
  rintro D σ H ⟨S', ρ, E, er, w, wn, wr⟩
  simp only [wS] at w
  obtain ⟨l, hl, w⟩ := owL_inv w
  obtain ⟨a, xs, o⟩ := er.owl hl
  refine ⟨_, o.s, .inl ⟨rfl, _, SqL.of o.h⟩, S', ρ, er, wE_mono w fun d w v H1 e1 s1 r1 => ?_⟩
  have er1 := er.ext e1 s1
  have o1 := o.ext er hl e1
  refine ⟨a, xs, v, rfl, rfl, o1.h, by rw [o1.r.length]; exact w.1, ?_⟩
  obtain ⟨f1, f2⟩ := o1.upd er1 hl (o1.r.append (.cons (r1.r hb) .nil))
  exact wn _ _ _ w.2 f1 ((FrO.ext e1).trans f2)
theorem st_ext {i : Nat} {e : M} {x : Str} {px ap cp pos : Pos} {y : Expr} (h : GdS C T X N sc k) (hp : (ap.endLine == cp.line) = true) (hi : N[i]? = some x) (hx : visB sc x = true) (hd : notDbg x = true) (hs : notStar y = true) (hm : mtE T N e sc y = true) :
    PS X (.Expr (.Call (.Attribute (.Name x px) "extend" ap) [y] [] cp) pos) (liftS C T.gs (.ext i e)) := by
  refine PS.imp (ps_expr (pe_bm PySem.F.plainAttrs_list PySem.F.slot_list_extend PySem.F.type_list_extend mt_extend (pe_own h.g hi hx hd) (pa_cons ((snd e).e h.g hm) pa_nil (star_cons hs)) base_name (few_one hs) hp (star_cons hs) (star_any fun _ z => by cases z))) ?_
  rintro D σ H ⟨S', ρ, E, er, w, wn, wr⟩
  simp only [wS] at w
  obtain ⟨l, hl, w⟩ := owL_inv w
  obtain ⟨a, xs, o⟩ := er.owl hl
  refine ⟨_, o.s, .inl ⟨rfl, _, SqL.of o.h⟩, S', ρ, er, wE_mono w fun d ⟨ys, ed, hz, w⟩ v H1 e1 s1 r1 => ?_⟩
  subst ed
  have er1 := er.ext e1 s1
  have o1 := o.ext er hl e1
  obtain ⟨b, zs, rfl, hb, rb⟩ := r1.b.list
  refine ⟨a, b, xs, zs, rfl, rfl, o1.h, hb, by rw [o1.r.length, rb.length]; exact hz, ?_⟩
  obtain ⟨f1, f2⟩ := o1.upd er1 hl (o1.r.append rb)
  exact wn _ _ _ w f1 ((FrO.ext e1).trans f2)
theorem pe_popOwn {i : Nat} {x : Str} {px ap cp : Pos} (g : Gd C T X N sc k) (hp : (ap.endLine == cp.line) = true) (hi : N[i]? = some x) (hx : visB sc x = true) (hd : notDbg x = true) : PE X (.Call (.Attribute (.Name x px) "pop" ap) [] [] cp) (tBM0 X.K "list" rPop (tVar i)) :=
  pe_bm0 PySem.F.plainAttrs_list PySem.F.slot_list_pop PySem.F.type_list_pop mt_pop (pe_own g hi hx hd) base_name hp
theorem pop_key {S' : Addr → Prop} {ρ : Ev} {σ : L2.St} {H : Hp} {i : Nat} {ds : List D} {d : D} {K : PySem.W.Frag} {Q : VK} (er : ER C S' ρ σ H) (hl : ρ[i]? = some (.ow (.list ds))) (hd : ds.getLast? = some d)
    (w : ∀ v H', ER C S' (ρ.set i (.ow (.list ds.dropLast))) σ H' → FrO C ρ σ H (ρ.set i (.ow (.list ds.dropLast))) σ H' → Rp C (mask H' (Ms S' (ρ.set i (.ow (.list ds.dropLast))) σ)) v d → Q v H') : tBM0 K "list" rPop (tVar i) σ H Q := by
  obtain ⟨a, xs, o⟩ := er.owl hl
  have hd2 : ds[ds.length - 1]? = some d := by rw [← List.getLast?_eq_getElem?]; exact hd
  obtain ⟨v, hv, rv⟩ := o.r.get hd2
  refine ⟨_, o.s, .inl ⟨rfl, _, SqL.of o.h⟩, a, xs, v, rfl, rfl, o.h, by rw [o.r.length]; exact hv, ?_⟩
  obtain ⟨f1, f2⟩ := o.upd er hl o.r.dropLast
  exact w _ _ f1 f2 (rv.mono (f2.sub er.mo))
theorem st_popD {i : Nat} {x : Str} {px ap cp pos : Pos} (h : GdS C T X N sc k) (hp : (ap.endLine == cp.line) = true) (hi : N[i]? = some x) (hx : visB sc x = true) (hd : notDbg x = true) : PS X (.Expr (.Call (.Attribute (.Name x px) "pop" ap) [] [] cp) pos) (liftS C T.gs (.popD i)) := by
  refine PS.imp (ps_expr (pe_popOwn h.g hp hi hx hd)) ?_
  rintro D σ H ⟨S', ρ, E, er, w, wn, wr⟩
  simp only [wS] at w
  obtain ⟨l, hl, hne, w⟩ := owL_inv w
  exact pop_key er hl (List.getLast?_eq_some_getLast hne) fun v H' f1 f2 _ => wn _ _ _ w f1 f2
theorem st_popT {i : Nat} {t : M} {tg : Expr} {x : Str} {px ap cp pos : Pos} (h : GdS C T X N sc k) (hp : (ap.endLine == cp.line) = true) (hi : N[i]? = some x) (hx : visB sc x = true) (hd : notDbg x = true) (hs : notStar tg = true) (hg : mtG N t sc tg = true) : PS X (.Assign [tg] (.Call (.Attribute (.Name x px) "pop" ap) [] [] cp) pos) (liftS C T.gs (.popT t i)) := by
  refine PS.imp (ps_asg (pe_popOwn h.g hp hi hx hd) ((tg_sound h.g t).1 hg) rfl (by cases tg <;> rfl) (by cases tg <;> first | rfl | cases hs)) ?_
  rintro D σ H ⟨S', ρ, E, er, w, wn, wr⟩
  simp only [wS] at w
  obtain ⟨l, hl, d, hd, w⟩ := owL_inv w
  exact pop_key er hl hd fun v H' f1 f2 rp => ⟨S', _, d, f1, rp, wG_mono w fun ρ1 w σ1 er1 shr tg => wn _ _ _ w er1 (f2.trans (FrO.shr shr))⟩
theorem st_mv {i j : Nat} {x y : Str} {px py pos : Pos} (h : GdS C T X N sc k) (hi : N[i]? = some x) (hx : locB sc x = true) (hj : N[j]? = some y) (hy : visB sc y = true) (hd : notDbg y = true) : PS X (.Assign [.Name x px] (.Name y py) pos) (liftS C T.gs (.mv i j)) := by
  obtain ⟨hl, hf⟩ := h.g.loc hx
  refine PS.pre (ps_set (by rw [h.g.eN]; exact h.g.nd) (by rw [h.g.eN]; exact hi) hl (pe_own h.g hj hy hd) rfl hf) ?_
  rintro D σ H hlen ⟨S', ρ, E, er, w, wn, wr⟩
  simp only [wS] at w
  split at w
  · rename_i d hd
    obtain ⟨a, h1, h2, h3⟩ := er.ow j d hd
    obtain ⟨q1, q2⟩ := er.mv (i := i) hd w.1 h1 (len_of er h.g hlen hi)
    exact ⟨_, h1, wn _ _ _ w.2 q1 q2⟩
  · exact w.elim

/-! ### if, while, for, return -/
theorem FrR.of {ρ : Ev} {σ : L2.St} {H H' : Hp} (e : Ext C H H') : FrR C ρ σ H H' := fun a o n1 n2 _ q => e a o n1 n2 q
theorem st_ret {e : M} {pos : Pos} {y : Expr} (h : GdS C T X N sc k) (hb : isBor e = false) (hm : mtE T N e sc y = true) : PS X (.Return (some y) pos) (liftS C T.gs (.ret e)) := by
  refine PS.imp (ps_ret ((snd e).e h.g hm)) ?_
  rintro D σ H ⟨S', ρ, E, er, w, wn, wr⟩
  simp only [wS] at w
  exact ⟨S', ρ, er, wE_mono w fun d w v H1 e1 s1 r1 => wr _ _ _ w (.of e1) s1 ((r1.r hb).mono (mask_mono fun a o h1 h2 => ⟨fun z => h1 (.inl z), h2⟩))⟩
theorem st_retN {pos : Pos} : PS X (.Return none pos) (liftS C T.gs .retN) := by
  refine PS.imp ps_retN ?_
  rintro D σ H ⟨S', ρ, E, er, w, wn, wr⟩
  simp only [wS] at w
  exact wr _ _ _ w (.of Ext.refl) er.st .non
theorem st_ite {c : M} {a b : S} {t : Expr} {xs ys : List Stmt} {pos : Pos} (h : GdS C T X N sc k) (hm : mtT T N c sc t = true) (ha : PSs X xs (liftS C T.gs a)) (hb : PSs X ys (liftS C T.gs b)) : PS X (.If t xs ys pos) (liftS C T.gs (.ite c a b)) := by
  refine PS.imp (ps_if ((snd c).t h.g hm) ha hb) ?_
  rintro D σ H ⟨S', ρ, E, er, w, wn, wr⟩
  simp only [wS] at w
  refine ⟨S', ρ, er, wT_mono w fun k w H1 e1 s1 => ?_⟩
  have er1 := er.ext e1 s1
  cases k with
  | true => exact ⟨S', ρ, E, er1, w, fun ρ' σ' H' q r f => wn _ _ _ q r ((FrO.ext e1).trans f), fun d v H' q r st rp => wr _ _ _ q ((FrO.ext e1).r r) st rp⟩
  | false => exact ⟨S', ρ, E, er1, w, fun ρ' σ' H' q r f => wn _ _ _ q r ((FrO.ext e1).trans f), fun d v H' q r st rp => wr _ _ _ q ((FrO.ext e1).r r) st rp⟩
theorem st_whl {c : M} {b : S} {t : Expr} {xs : List Stmt} {pos : Pos} (h : GdS C T X N sc k) (hm : mtT T N c sc t = true) (hb : PSs X xs (liftS C T.gs b)) : PS X (.While t xs [] pos) (liftS C T.gs (.whl c b)) := by
  refine PS.imp (ps_while h.g.never ((snd c).t h.g hm) hb) ?_
  rintro D σ H ⟨S', ρ, E, er, w, wn, wr⟩
  simp only [wS] at w
  obtain ⟨I, ⟨m0, i0⟩, turn⟩ := w
  refine ⟨fun m σ' H' => ∃ ρ', ER C S' ρ' σ' H' ∧ FrO C ρ σ H ρ' σ' H' ∧ I m ρ', ⟨m0, ρ, er, FrO.refl, i0⟩, ?_⟩
  rintro m σ1 H1 ⟨ρ1, er1, f1, im⟩
  refine ⟨S', ρ1, er1, wT_mono (turn m ρ1 im) fun k w H2 e2 s2 => ?_⟩
  have er2 := er1.ext e2 s2
  have f2 := f1.trans (FrO.ext (ρ := ρ1) (σ := σ1) e2)
  cases k with
  | true =>
    exact ⟨_, fun σ' H' q => q, S', ρ1, _, er2, w, fun ρ' σ' H' ⟨m', hm', im'⟩ r f => ⟨m', hm', ρ', r, f2.trans f, im'⟩, fun d v H' q r st rp => wr _ _ _ q (f2.r r) st rp⟩
  | false => exact wn _ _ _ w er2 f2
theorem st_for {t it : M} {b : S} {tg ie : Expr} {xs : List Stmt} {pos : Pos} (h : GdS C T X N sc k) (hi : notSet ie = true) (hst : strictI it = true) (hg : mtG N t sc tg = true) (hm : mtI T N it sc tg ie = true) (hb : PSs X xs (liftS C T.gs b)) : PS X (.For tg ie xs [] pos) (liftS C T.gs (.for_ t it b)) := by
  refine PS.imp (ps_for h.g.never h.g.calm ((snd it).i h.g hm) ((tg_sound h.g t).1 hg) hb (by intro z; cases ie <;> first | rfl | cases hi)) ?_
  rintro D σ H ⟨S', ρ, E, er, w, wn, wr⟩
  simp only [wS] at w
  refine ⟨S', ρ, er, wI_mono w fun items w J H1 e1 s1 _ wk => ?_⟩
  have wk := wk hst
  have er1 := er.ext e1 s1
  refine ⟨fun i m σ' H' => m = items.length - i ∧ i ≤ items.length ∧ ∃ ρ', ER C S' ρ' σ' H' ∧ FrO C ρ σ H1 ρ' σ' H' ∧ forL (wG t) (wS T.gs b) E (items.drop i) ρ', ⟨items.length, by simp, Nat.zero_le _, ρ, er1, FrO.refl, w⟩, ?_⟩
  rintro i m σ2 H2 ⟨rfl, hi2, ρ2, er2, f2, w⟩
  have kp : Sub (mask H1 (Ms S' ρ σ)) H2 := (f2.sub er1.mo).trans mask_sub
  by_cases hlt : i < items.length
  · right
    obtain ⟨go, yl⟩ := (wk i H2 kp).1 hlt
    refine ⟨go, fun σ' H' => ∃ ρ', ER C S' ρ' σ' H' ∧ FrO C ρ σ H1 ρ' σ' H' ∧ forL (wG t) (wS T.gs b) E (items.drop (i + 1)) ρ', fun σ' H' q => ⟨items.length - (i + 1), by omega, rfl, hlt, q⟩, fun x H3 hy => ?_⟩
    obtain ⟨keep, d, hd, G', rx, hG'⟩ := yl x H3 hy
    have e23 : Ext C H2 H3 := fun a o _ _ q => keep a o q
    have st3 : StOk C H3 := by
      obtain ⟨cs, seed, n, q1, q2, q3⟩ := er2.st
      exact ⟨cs, seed, n, keep _ _ q1, keep _ _ q2, q3⟩
    have er3 := er2.ext e23 st3
    have hdrop : items.drop i = d :: items.drop (i + 1) := by
      rw [List.drop_eq_getElem_cons hlt]
      rw [List.getElem?_eq_getElem hlt] at hd
      cases hd; rfl
    rw [hdrop] at w
    unfold forL at w
    have rx2 : Rp C (mask H3 (Ms S' ρ2 σ2)) x d := rx.mono fun b o q => by
      rcases hG' b o q with q | ⟨q, q'⟩
      · exact er2.mok.sub e23 b o (f2.sub er1.mo b o q)
      · exact mask_some.mpr ⟨fun z => er2.mok.x b z q, q'⟩
    refine ⟨S', ρ2, d, er3, rx2, wG_mono w fun ρ4 w σ4 er4 shr tg => ?_⟩
    have f4 : FrO C ρ σ H1 ρ4 σ4 H3 := (f2.trans (FrO.ext (ρ := ρ2) (σ := σ2) e23)).trans (FrO.shr shr)
    exact ⟨S', ρ4, _, er4, w, fun ρ' σ' H' q r f => ⟨ρ', r, f4.trans f, q⟩, fun d v H' q r st rp => wr _ _ _ q ((FrO.ext (ρ := ρ) (σ := σ) e1).r (f4.r r)) st rp⟩
  · left
    have e : i = items.length := by omega
    subst e
    rw [List.drop_eq_nil_of_le (Nat.le_refl _)] at w
    exact ⟨(wk _ H2 kp).2 (Nat.le_refl _), wn _ _ _ w er2 ((FrO.ext (ρ := ρ) (σ := σ) e1).trans f2)⟩

theorem sndS (s : S) : ∀ {X : Cx} {N : List Str} {sc : Scope} {k : Nat}, GdS C T X N sc k → (∀ {xs : List Stmt}, mtS T N s sc xs = true → PSs X xs (liftS C T.gs s)) ∧ (∀ {x : Stmt}, mt1 T N s sc x = true → PS X x (liftS C T.gs s)) := by
  induction s with
  | nil =>
    intro X N sc k h
    refine ⟨fun {xs} q => ?_, fun {x} q => by cases x <;> simp [mt1] at q⟩
    cases xs <;> simp only [mtS] at q <;> try (cases q; done)
    refine PSs.imp pss_nil ?_
    rintro D σ H ⟨S', ρ, E, er, w, wn, wr⟩
    simp only [wS] at w
    exact wn _ _ _ w er FrO.refl
  | seq a b iha ihb =>
    intro X N sc k h
    refine ⟨fun {xs} q => ?_, fun {x} q => by cases x <;> simp [mt1] at q⟩
    cases xs <;> simp only [mtS, Bool.and_eq_true] at q <;> try (cases q; done)
    refine PSs.imp (pss_cons ((iha h).2 q.1) ((ihb h).1 q.2)) ?_
    rintro D σ H ⟨S', ρ, E, er, w, wn, wr⟩
    simp only [wS] at w
    exact ⟨S', ρ, _, er, w, fun ρ' σ' H' q r f => ⟨S', ρ', E, r, q, fun ρ2 σ2 H2 q2 r2 f2 => wn _ _ _ q2 r2 (f.trans f2), fun d v H2 q2 r2 st rp => wr _ _ _ q2 (f.r r2) st rp⟩, wr⟩
  | pass =>
    intro X N sc k h
    refine ⟨fun {xs} q => by cases xs <;> simp [mtS] at q, fun {x} q => ?_⟩
    cases x <;> simp only [mt1] at q <;> try (cases q; done)
    refine PS.imp ps_pass ?_
    rintro D σ H ⟨S', ρ, E, er, w, wn, wr⟩
    simp only [wS] at w
    exact wn _ _ _ w er FrO.refl
  | never =>
    intro X N sc k h
    refine ⟨fun {xs} q => by cases xs <;> simp [mtS] at q, fun {x} q => ?_⟩
    refine PS.imp ps_never ?_
    rintro D σ H ⟨S', ρ, E, er, w, wn, wr⟩
    simp only [wS] at w
  | set i e =>
    intro X N sc k h
    refine ⟨fun {xs} q => by cases xs <;> simp [mtS] at q, fun {x} q => ?_⟩
    cases x <;> try (simp only [mt1] at q; cases q; done)
    rename_i ts y pos
    rcases ts with _ | ⟨t, _ | ⟨t2, ts⟩⟩ <;> try (simp only [mt1] at q; cases q; done)
    cases t <;> simp only [mt1, Bool.and_eq_true, decide_eq_true_eq] at q <;> try (cases q; done)
    obtain ⟨⟨⟨⟨q1, q2⟩, q3⟩, q4⟩, q5⟩ := q
    exact st_set (o := false) h q1 q2 (by simpa using q3) q4 q5 fun E ρ w => by
      simp only [wS] at w
      exact wE_mono w fun d w => ⟨fun z => Bool.noConfusion z, w⟩
  | setO i e =>
    intro X N sc k h
    refine ⟨fun {xs} q => by cases xs <;> simp [mtS] at q, fun {x} q => ?_⟩
    cases x <;> try (simp only [mt1] at q; cases q; done)
    rename_i ts y pos
    rcases ts with _ | ⟨t, _ | ⟨t2, ts⟩⟩ <;> try (simp only [mt1] at q; cases q; done)
    cases t <;> simp only [mt1, Bool.and_eq_true, decide_eq_true_eq] at q <;> try (cases q; done)
    obtain ⟨⟨⟨⟨q1, q2⟩, q3⟩, q4⟩, q5⟩ := q
    exact st_set (o := true) h q1 q2 (by simpa using q3) q4 q5 fun E ρ w => by
      simp only [wS] at w
      exact wE_mono w fun d w => ⟨fun _ => w.1, w.2⟩
  | setLc o i e =>
    intro X N sc k h
    refine ⟨fun {xs} q => by cases xs <;> simp [mtS] at q, fun {x} q => ?_⟩
    cases e <;> try (cases x <;> simp only [mt1] at q <;> cases q; done)
    cases x <;> try (simp only [mt1] at q; cases q; done)
    rename_i ts y pos
    rcases ts with _ | ⟨t, _ | ⟨t2, ts⟩⟩ <;> try (simp only [mt1] at q; cases q; done)
    cases t <;> try (simp only [mt1] at q; cases q; done)
    cases y <;> try (simp only [mt1] at q; cases q; done)
    rename_i y gens scope p
    rcases gens with _ | ⟨⟨t, i, fs, as⟩, _ | ⟨g2, gens⟩⟩ <;> simp only [mt1, Bool.and_eq_true, decide_eq_true_eq] at q <;> try (cases q; done)
    exact st_setLc h q.1.1 q.1.2 q.2
  | asg t e =>
    intro X N sc k h
    refine ⟨fun {xs} q => by cases xs <;> simp [mtS] at q, fun {x} q => ?_⟩
    cases x <;> try (simp only [mt1] at q; cases q; done)
    rename_i ts y pos
    rcases ts with _ | ⟨t, _ | ⟨t2, ts⟩⟩ <;> try (simp only [mt1] at q; cases q; done)
    cases t <;> simp only [mt1, Bool.and_eq_true, Bool.not_eq_true'] at q <;> try (cases q; done)
    exact st_asg h q.1.1.1 q.1.1.2 q.1.2 q.2
  | par2 i j oi oj a b =>
    intro X N sc k h
    refine ⟨fun {xs} q => by cases xs <;> simp [mtS] at q, fun {x} q => ?_⟩
    cases x <;> try (simp only [mt1] at q; cases q; done)
    rename_i ts y pos
    rcases ts with _ | ⟨t, _ | ⟨t2, ts⟩⟩ <;> try (simp only [mt1] at q; cases q; done)
    cases t <;> try (simp only [mt1] at q; cases q; done)
    rename_i xs kt pt
    cases y <;> try (simp only [mt1] at q; cases q; done)
    rename_i vs k2 pt2
    rcases xs with _ | ⟨xs1, _ | ⟨xs2, _ | ⟨xs3, xs4⟩⟩⟩ <;> try (simp only [mt1] at q; cases q; done)
    rcases vs with _ | ⟨vs1, _ | ⟨vs2, _ | ⟨vs3, vs4⟩⟩⟩ <;> try (simp only [mt1] at q; cases q; done)
    cases xs1 <;> try (simp only [mt1] at q; cases q; done)
    cases xs2 <;> try (simp only [mt1] at q; cases q; done)
    simp only [mt1, Bool.and_eq_true, decide_eq_true_eq, Bool.not_eq_true'] at q
    obtain ⟨⟨⟨⟨⟨⟨⟨⟨⟨⟨⟨q1, q2⟩, q3⟩, q4⟩, q5⟩, q6⟩, q7⟩, q8⟩, q9⟩, q10⟩, q11⟩, q12⟩ := q
    split at q8 <;> try (cases q8; done)
    rename_i hsw
    simp only [Bool.and_eq_true, decide_eq_true_eq] at q8
    obtain ⟨rfl, rfl⟩ := q8
    exact st_par2 h q1 q2 q3 q4 q5 q6 q7 hsw q9 q10 q11 q12
  | par3 i j l oi oj ol a b c =>
    intro X N sc k h
    refine ⟨fun {xs} q => by cases xs <;> simp [mtS] at q, fun {x} q => ?_⟩
    cases x <;> try (simp only [mt1] at q; cases q; done)
    rename_i ts y pos
    rcases ts with _ | ⟨t, _ | ⟨t2, ts⟩⟩ <;> try (simp only [mt1] at q; cases q; done)
    cases t <;> try (simp only [mt1] at q; cases q; done)
    rename_i xs kt pt
    cases y <;> try (simp only [mt1] at q; cases q; done)
    rename_i vs k2 pt2
    rcases xs with _ | ⟨xs1, _ | ⟨xs2, _ | ⟨xs3, _ | ⟨xs4, xs5⟩⟩⟩⟩ <;> try (simp only [mt1] at q; cases q; done)
    rcases vs with _ | ⟨vs1, _ | ⟨vs2, _ | ⟨vs3, _ | ⟨vs4, vs5⟩⟩⟩⟩ <;> try (simp only [mt1] at q; cases q; done)
    cases xs1 <;> try (simp only [mt1] at q; cases q; done)
    cases xs2 <;> try (simp only [mt1] at q; cases q; done)
    cases xs3 <;> try (simp only [mt1] at q; cases q; done)
    simp only [mt1, Bool.and_eq_true, decide_eq_true_eq, Bool.not_eq_true'] at q
    obtain ⟨⟨⟨⟨⟨⟨⟨⟨⟨⟨⟨⟨⟨⟨⟨⟨⟨⟨q1, q2⟩, q3⟩, q4⟩, q5⟩, q6⟩, q7⟩, q8⟩, q9⟩, q10⟩, q11⟩, q12⟩, q13⟩, q14⟩, q15⟩, q16⟩, q17⟩, q18⟩, q19⟩ := q
    split at q13 <;> try (cases q13; done)
    rename_i hsw
    simp only [Bool.and_eq_true, decide_eq_true_eq] at q13
    obtain ⟨⟨rfl, rfl⟩, rfl⟩ := q13
    exact st_par3 h q1 q2 q3 q4 q5 q6 q7 q8 q9 q10 q11 q12 hsw q14 q15 q16 q17 q18 q19
  | aug i op e =>
    intro X N sc k h
    refine ⟨fun {xs} q => by cases xs <;> simp [mtS] at q, fun {x} q => ?_⟩
    cases x <;> try (simp only [mt1] at q; cases q; done)
    rename_i t o y pos
    cases t <;> try (simp only [mt1] at q; cases q; done)
    simp only [mt1, Bool.and_eq_true, decide_eq_true_eq, Bool.not_eq_true'] at q
    obtain ⟨⟨⟨⟨q1, q2⟩, rfl⟩, q4⟩, q5⟩ := q
    exact st_aug h q1 q2 q4 q5
  | setIx i kk e =>
    intro X N sc k h
    refine ⟨fun {xs} q => by cases xs <;> simp [mtS] at q, fun {x} q => ?_⟩
    cases x <;> try (simp only [mt1] at q; cases q; done)
    rename_i ts y pos
    rcases ts with _ | ⟨t, _ | ⟨t2, ts⟩⟩ <;> try (simp only [mt1] at q; cases q; done)
    cases t <;> try (simp only [mt1] at q; cases q; done)
    rename_i nm ky p2
    cases nm <;> try (simp only [mt1] at q; cases q; done)
    simp only [mt1, Bool.and_eq_true, decide_eq_true_eq, Bool.not_eq_true'] at q
    obtain ⟨⟨⟨⟨⟨⟨⟨q1, q2⟩, q3⟩, q4⟩, q5⟩, q6⟩, q7⟩, q8⟩ := q
    exact st_setIx h q1 q2 q3 q4 q5 q6 q7 q8
  | augIx i op kk e =>
    intro X N sc k h
    refine ⟨fun {xs} q => by cases xs <;> simp [mtS] at q, fun {x} q => ?_⟩
    cases x <;> try (simp only [mt1] at q; cases q; done)
    rename_i t o y pos
    cases t <;> try (simp only [mt1] at q; cases q; done)
    rename_i nm ky p2
    cases nm <;> try (simp only [mt1] at q; cases q; done)
    simp only [mt1, Bool.and_eq_true, decide_eq_true_eq, Bool.not_eq_true'] at q
    obtain ⟨⟨⟨⟨⟨⟨⟨q1, q2⟩, q3⟩, q4⟩, rfl⟩, q6⟩, q7⟩, q8⟩ := q
    exact st_augIx h q1 q2 q3 q4 q6 q7 q8
  | app i e =>
    intro X N sc k h
    refine ⟨fun {xs} q => by cases xs <;> simp [mtS] at q, fun {x} q => ?_⟩
    cases x <;> try (simp only [mt1] at q; cases q; done)
    rename_i v pos
    cases v <;> try (simp only [mt1] at q; cases q; done)
    rename_i f args kws cp
    cases f <;> try (simp only [mt1] at q; cases q; done)
    rename_i nm m ap
    cases nm <;> try (simp only [mt1] at q; cases q; done)
    rcases args with _ | ⟨y, _ | ⟨y2, args⟩⟩ <;> try (simp only [mt1] at q; cases q; done)
    cases kws <;> try (simp only [mt1] at q; cases q; done)
    simp only [mt1, Bool.and_eq_true, decide_eq_true_eq, Bool.not_eq_true'] at q
    obtain ⟨⟨⟨⟨⟨⟨⟨q0, q1⟩, q2⟩, q3⟩, rfl⟩, q5⟩, q6⟩, q7⟩ := q
    exact st_app h q0 q1 q2 q3 q5 q6 q7
  | ext i e =>
    intro X N sc k h
    refine ⟨fun {xs} q => by cases xs <;> simp [mtS] at q, fun {x} q => ?_⟩
    cases x <;> try (simp only [mt1] at q; cases q; done)
    rename_i v pos
    cases v <;> try (simp only [mt1] at q; cases q; done)
    rename_i f args kws cp
    cases f <;> try (simp only [mt1] at q; cases q; done)
    rename_i nm m ap
    cases nm <;> try (simp only [mt1] at q; cases q; done)
    rcases args with _ | ⟨y, _ | ⟨y2, args⟩⟩ <;> try (simp only [mt1] at q; cases q; done)
    cases kws <;> try (simp only [mt1] at q; cases q; done)
    simp only [mt1, Bool.and_eq_true, decide_eq_true_eq, Bool.not_eq_true'] at q
    obtain ⟨⟨⟨⟨⟨⟨q0, q1⟩, q2⟩, q3⟩, rfl⟩, q5⟩, q7⟩ := q
    exact st_ext h q0 q1 q2 q3 q5 q7
  | popD i =>
    intro X N sc k h
    refine ⟨fun {xs} q => by cases xs <;> simp [mtS] at q, fun {x} q => ?_⟩
    cases x <;> try (simp only [mt1] at q; cases q; done)
    rename_i v pos
    cases v <;> try (simp only [mt1] at q; cases q; done)
    rename_i f args kws cp
    cases f <;> try (simp only [mt1] at q; cases q; done)
    rename_i nm m ap
    cases nm <;> try (simp only [mt1] at q; cases q; done)
    cases args <;> try (simp only [mt1] at q; cases q; done)
    cases kws <;> try (simp only [mt1] at q; cases q; done)
    simp only [mt1, Bool.and_eq_true, decide_eq_true_eq, Bool.not_eq_true'] at q
    obtain ⟨⟨⟨⟨q0, q1⟩, q2⟩, q3⟩, rfl⟩ := q
    exact st_popD h q0 q1 q2 q3
  | popT t i =>
    intro X N sc k h
    refine ⟨fun {xs} q => by cases xs <;> simp [mtS] at q, fun {x} q => ?_⟩
    cases x <;> try (simp only [mt1] at q; cases q; done)
    rename_i ts y pos
    rcases ts with _ | ⟨tg, _ | ⟨t2, ts⟩⟩ <;> try (simp only [mt1] at q; cases q; done)
    cases y <;> try (simp only [mt1] at q; cases q; done)
    rename_i f args kws cp
    cases f <;> try (simp only [mt1] at q; cases q; done)
    rename_i nm m ap
    cases nm <;> try (simp only [mt1] at q; cases q; done)
    cases args <;> try (simp only [mt1] at q; cases q; done)
    cases kws <;> try (simp only [mt1] at q; cases q; done)
    simp only [mt1, Bool.and_eq_true, decide_eq_true_eq, Bool.not_eq_true'] at q
    obtain ⟨⟨⟨⟨⟨⟨q0, q1⟩, q2⟩, q3⟩, rfl⟩, q5⟩, q6⟩ := q
    exact st_popT h q0 q1 q2 q3 q5 q6
  | ite c a b iha ihb =>
    intro X N sc k h
    refine ⟨fun {xs} q => by cases xs <;> simp [mtS] at q, fun {x} q => ?_⟩
    cases x <;> simp only [mt1, Bool.and_eq_true] at q <;> try (cases q; done)
    exact st_ite h q.1.1 ((iha h).1 q.1.2) ((ihb h).1 q.2)
  | whl c b ihb =>
    intro X N sc k h
    refine ⟨fun {xs} q => by cases xs <;> simp [mtS] at q, fun {x} q => ?_⟩
    cases x <;> try (simp only [mt1] at q; cases q; done)
    rename_i t xs ys pos
    cases ys <;> simp only [mt1, Bool.and_eq_true] at q <;> try (cases q; done)
    exact st_whl h q.1 ((ihb h).1 q.2)
  | for_ t it b ihb =>
    intro X N sc k h
    refine ⟨fun {xs} q => by cases xs <;> simp [mtS] at q, fun {x} q => ?_⟩
    cases x <;> try (simp only [mt1] at q; cases q; done)
    rename_i tg ie xs ys pos
    cases ys <;> simp only [mt1, Bool.and_eq_true] at q <;> try (cases q; done)
    obtain ⟨⟨⟨⟨q1, q2⟩, q3⟩, q4⟩, q5⟩ := q
    exact st_for h q1 q2 q3 q4 ((ihb h).1 q5)
  | ret e =>
    intro X N sc k h
    refine ⟨fun {xs} q => by cases xs <;> simp [mtS] at q, fun {x} q => ?_⟩
    cases x <;> try (simp only [mt1] at q; cases q; done)
    rename_i y pos
    cases y <;> simp only [mt1, Bool.and_eq_true, Bool.not_eq_true'] at q <;> try (cases q; done)
    exact st_ret h q.1 q.2
  | retN =>
    intro X N sc k h
    refine ⟨fun {xs} q => by cases xs <;> simp [mtS] at q, fun {x} q => ?_⟩
    cases x <;> try (simp only [mt1] at q; cases q; done)
    rename_i y pos
    cases y <;> simp only [mt1] at q <;> try (cases q; done)
    exact st_retN
  | frz i s ih =>
    intro X N sc k h
    refine ⟨fun {xs} q => by cases xs <;> simp [mtS] at q, fun {x} q => ?_⟩
    simp only [mt1] at q
    refine PS.imp ((ih h).2 q) ?_
    rintro D σ H ⟨S', ρ, E, er, w, wn, wr⟩
    simp only [wS] at w
    obtain ⟨f1, f2⟩ := er.frz i
    exact ⟨S', _, E, f1, w, fun ρ' σ' H' q r f => wn _ _ _ q r (f2.trans f), fun d v H' q r st rp => wr _ _ _ q (f2.r r) st rp⟩
  | mv i j =>
    intro X N sc k h
    refine ⟨fun {xs} q => by cases xs <;> simp [mtS] at q, fun {x} q => ?_⟩
    cases x <;> try (simp only [mt1] at q; cases q; done)
    rename_i ts y pos
    rcases ts with _ | ⟨t, _ | ⟨t2, ts⟩⟩ <;> try (simp only [mt1] at q; cases q; done)
    cases t <;> try (simp only [mt1] at q; cases q; done)
    cases y <;> try (simp only [mt1] at q; cases q; done)
    simp only [mt1, Bool.and_eq_true, decide_eq_true_eq, Bool.not_eq_true'] at q
    obtain ⟨⟨⟨⟨q1, q2⟩, q3⟩, q4⟩, q5⟩ := q
    exact st_mv h q1 q2 q3 q4 q5
  | asgPar t e =>
    intro X N sc k h
    refine ⟨fun {xs} q => by cases xs <;> simp [mtS] at q, fun {x} q => by cases x <;> simp [mt1] at q⟩
end
end Mp

/-! Mini, part N: a def of the text keeps what its small body says. -/
namespace Mp
open PySem PySem.Spec PyProof.Rows L2
/-- what the module's names are, besides its defs -/
structure Fx (mg : Str → Option Value) (cn : List (Str × Int)) (gcd : Bool) : Prop where
  con : ∀ (x : Str) (i : Int), (x, i) ∈ cn → ∃ t, mg x = some (.int i t)
  blt : ∀ x ∈ bltNames, mg x = none
  gcd : gcd = true → mg "gcd" = some (.builtin "math.gcd")
section
variable {P : Program} {w : World} {K : PySem.W.Frag} {mg : Str → Option Value} {base : Heap}
theorem Cl.mono {j k : Nat} {x : Str} {sp : Sp} (c : Cl P w K mg base j x sp) (h : j ≤ k) : Cl P w K mg base k x sp := by
  obtain ⟨f, fd, ps, F, r⟩ := c.ex
  exact ⟨f, fd, ps, F.mono h, r⟩
/-- the callees, in the table's order -/
inductive Cls (P : Program) (w : World) (K : PySem.W.Frag) (mg : Str → Option Value) (base : Heap) (C : MC) (k : Nat) : List Str → List Spc → Prop
  | nil : Cls P w K mg base C k [] []
  | cons {x : Str} {sp : Spc} {xs : List Str} {sps : List Spc} {j : Nat} : Cl P w K mg base j x (liftSp C sp) → j ≤ k → Cls P w K mg base C k xs sps → Cls P w K mg base C k (x :: xs) (sp :: sps)
theorem Cls.get {C : MC} {k : Nat} : ∀ {xs : List Str} {sps : List Spc}, Cls P w K mg base C k xs sps → ∀ (g : Nat) (nm : Str) (sp : Spc), xs[g]? = some nm → sps[g]? = some sp → Cl P w K mg base k nm (liftSp C sp)
  | _, _, .nil, g, nm, sp, h, _ => by simp at h
  | _, _, .cons c hk r, 0, nm, sp, h, h' => by
    simp at h h'
    subst h h'
    exact c.mono hk
  | _, _, .cons c hk r, g + 1, nm, sp, h, h' => r.get g nm sp (by simpa using h) (by simpa using h')
def initE (n : Nat) (ds : List D) : Ev := ds.map .sh ++ List.replicate (n - ds.length) .un
theorem start_er {C : MC} {S' : Addr → Prop} {N : List Str} {vs : List V} {ds : List D} {H : Hp} (mo : MOk C S' H) (st : StOk C H) (r : RpA C (mask H S') vs ds) : ER C S' (initE N.length ds) (start N vs) H ∧ ∀ a, ¬ Own (initE N.length ds) (start N vs) a := by
  have get : ∀ {i : Nat} {c : Cell}, (initE N.length ds)[i]? = some c → (∃ d, ds[i]? = some d ∧ c = .sh d) ∨ c = .un := fun {i c} h => by
    unfold initE at h
    by_cases hi : i < ds.length
    · rw [List.getElem?_append_left (by simpa using hi), List.getElem?_map, List.getElem?_eq_getElem hi] at h
      cases h
      exact .inl ⟨_, List.getElem?_eq_getElem hi, rfl⟩
    · rw [List.getElem?_append_right (by simpa using hi), List.getElem?_replicate] at h
      split at h
      · cases h; exact .inr rfl
      · cases h
  have no : ∀ a, ¬ Own (initE N.length ds) (start N vs) a := fun a ⟨i, d, h, _⟩ => by
    rcases get h with ⟨_, _, e⟩ | e <;> cases e
  have ms : ∀ a, Ms S' (initE N.length ds) (start N vs) a → S' a := fun a h => h.elim id fun h => (no a h).elim
  refine ⟨⟨?_, fun i d h => ?_, fun i d h => ?_, fun i j d e a h => ?_, st, mo⟩, no⟩
  · unfold initE L2.start
    simp [r.length]
  · rcases get h with ⟨d', h1, e⟩ | e
    · cases e
      obtain ⟨v, h2, h3⟩ := r.get h1
      refine ⟨v, ?_, h3.mono (mask_mono fun a o q1 q2 => ⟨fun z => q1 (ms a z), q2⟩)⟩
      unfold L2.start
      have hi : i < vs.length := by
        by_cases hi : i < vs.length
        · exact hi
        · rw [List.getElem?_eq_none (by omega)] at h2; cases h2
      rw [List.getElem?_append_left (by simpa using hi), List.getElem?_map, h2]; rfl
    · cases e
  · rcases get h with ⟨_, _, e⟩ | e <;> cases e
  · rcases get h with ⟨_, _, e⟩ | e <;> cases e
theorem kind_block {sc : Scope} {env : Env} (h : env.scope = sc) (hk : sc.kind = .function) : env.blockKind = .function := by
  unfold Env.blockKind
  rw [h, hk]
  rfl
theorem gd_of {C : MC} {T : TB} {N : List Str} {scope : Scope} {k : Nat} {f : Addr} {cdv : Value} {A : Around} {outer : List Env} {s : Shared} {H : Hp} {E : XK} {x : Str} (hC : C.K = K) (nd : N.Nodup) (hk : scope.kind = .function) (hr : Room k (A.deeper (envOfC x scope s.heap.objs.size f cdv)))
    (fx : Fx mg T.cn T.gcd) (cs : Cls P w K mg base C k T.gn T.gs) (hd : A.handled = none) : GdS C T (cxOf CXn P w K mg base N x scope f cdv A outer s H E).nox N scope k where
  g := {
    eK := hC.symm
    calm := rfl
    xe := rfl
    eN := rfl
    nd := nd
    es := fun x => .inl rfl
    room := hr
    fn := fun x h => rfl
    cal := cs.get
    con := fx.con
    blt := fx.blt
    gcd := fx.gcd }
  bk := kind_block (sc := scope) rfl hk
  sc := fun x => rfl
/-- THE RULE: a def by its small body -/
theorem fn_ok {C : MC} {T : TB} {x : Str} {args : Arguments} {body : List Stmt} {scope : Scope} {f : Addr} {fd : FuncData} {N ps : List Str} {k : Nat} {sp : Spc} {m : S} (hC : C.K = K) (F : FunD K x x args body scope [] [] f fd) (hmg : mg x = some (.ref f)) (hb : Binds K fd ps []) (Sc : FnScope N ps scope)
    (fx : Fx mg T.cn T.gcd) (cs : Cls P w K mg base C k T.gn T.gs) (hm : mtS T N m scope body = true) (hl : ∀ ds Q, sp ds Q → ds.length = ps.length) (hw : ∀ ds Q, sp ds Q → wS T.gs m ⟨fun _ => Q .none, Q⟩ (initE N.length ds)) : Cl P w K mg base (k + 1) x (liftSp C sp) := by
  refine ⟨f, fd, ps, F.ok Sc (fun vs H Q E h => ?_) (fun cdv A outer s H vs Q E hr h => ?_), hmg, F.kp, hb⟩
  · obtain ⟨S', ds, Q', mo, st, r, hs, _⟩ := h
    rw [r.length]
    exact hl ds Q' hs
  · obtain ⟨S', ds, Q', mo, st, r, hs, hq⟩ := h
    obtain ⟨er, no⟩ := start_er (N := N) mo st r
    refine ⟨liftS C T.gs m, PSs.nox ((sndS m (gd_of hC Sc.nd Sc.kind hr fx cs hr.hd)).1 hm), S', _, ⟨fun _ => Q' .none, Q'⟩, er, hw ds Q' hs, fun ρ' σ' H' q r2 fr => ?_, fun d v H' q fr st2 rp => ?_⟩
    · exact hq _ q _ H' (fun a o n1 n2 e => (fr a o n1 n2 (no a) e).1) r2.st .non
    · exact hq d q v H' (fun a o n1 n2 e => fr a o n1 n2 (no a) e) st2 rp
end
end Mp

/-! Mini, part O: the meaning as rewrite rows, the rules of loops, specs in plain form. -/
namespace Mp
open PySem
/-- a promise: under a wish on what is given, this is told -/
def Fsp (pre : List D → Prop) (f : List D → D) : Spc := fun ds Q => pre ds ∧ Q (f ds)
/-- a promise: under a wish on what is given, some such thing is told -/
def Nsp (pre : List D → Prop) (R : List D → D → Prop) : Spc := fun ds Q => pre ds ∧ ∀ d, R ds d → Q d
@[simp] theorem call_F {pre : List D → Prop} {f : List D → D} {ds : List D} {Q : D → Prop} : (∃ Q' : D → Prop, Fsp pre f ds Q' ∧ ∀ d, Q' d → Q d) ↔ pre ds ∧ Q (f ds) :=
  ⟨fun ⟨Q', ⟨a, b⟩, c⟩ => ⟨a, c _ b⟩, fun ⟨a, b⟩ => ⟨Q, ⟨a, b⟩, fun _ h => h⟩⟩
@[simp] theorem call_N {pre : List D → Prop} {R : List D → D → Prop} {ds : List D} {Q : D → Prop} : (∃ Q' : D → Prop, Nsp pre R ds Q' ∧ ∀ d, Q' d → Q d) ↔ pre ds ∧ ∀ d, R ds d → Q d :=
  ⟨fun ⟨Q', ⟨a, b⟩, c⟩ => ⟨a, fun d h => c _ (b d h)⟩, fun ⟨a, b⟩ => ⟨Q, ⟨a, b⟩, fun _ h => h⟩⟩
/-- a promise: under a wish on what is given, some such thing is told, by its value -/
def Asp {α : Type} (pre : List D → Prop) (val : α → D) (R : List D → α → Prop) : Spc := fun ds Q => pre ds ∧ ∀ a, R ds a → Q (val a)
@[simp] theorem call_A {α : Type} {pre : List D → Prop} {val : α → D} {R : List D → α → Prop} {ds : List D} {Q : D → Prop} : (∃ Q' : D → Prop, Asp pre val R ds Q' ∧ ∀ d, Q' d → Q d) ↔ pre ds ∧ ∀ a, R ds a → Q (val a) :=
  ⟨fun ⟨Q', ⟨a, b⟩, c⟩ => ⟨a, fun d h => c _ (b d h)⟩, fun ⟨a, b⟩ => ⟨Q, ⟨a, b⟩, fun _ h => h⟩⟩
/-- the draw -/
def Pdraw : List D → Prop
  | [s, .int n] => s = stTok ∧ 0 < n ∧ n.natAbs.log2 < 9000
  | _ => False
def Rdraw : List D → Int → Prop
  | [_, .int n], v => 0 ≤ v ∧ v < n
  | _, _ => False
abbrev spDraw : Spc := Asp Pdraw PyData.int Rdraw
@[simp] theorem Pdraw_i {s : D} {n : Int} : Pdraw [s, .int n] ↔ s = stTok ∧ 0 < n ∧ n.natAbs.log2 < 9000 := Iff.rfl
@[simp] theorem Rdraw_i {s : D} {n v : Int} : Rdraw [s, .int n] v ↔ 0 ≤ v ∧ v < n := Iff.rfl
section
variable {Γ : List Spc} {ρ : Ev} {E : En}
section
variable {Q : D → Prop} {a b c : M}
@[simp] theorem wE_var {i : Nat} : wE Γ (.var i) ρ Q = match ρ[i]? with
    | some (.sh d) => Q d
    | _ => False := rfl
@[simp] theorem wE_bor {i : Nat} : wE Γ (.bor i) ρ Q = match ρ[i]? with
    | some (.sh d) => Q d
    | some (.ow d) => Q d
    | _ => False := rfl
@[simp] theorem wE_int {i : Int} : wE Γ (.int i) ρ Q = Q (.int i) := rfl
@[simp] theorem wE_bl {i : Bool} : wE Γ (.bl i) ρ Q = Q (.bool i) := rfl
@[simp] theorem wE_non : wE Γ .non ρ Q = Q .none := rfl
@[simp] theorem wE_str {s : Str} : wE Γ (.str s) ρ Q = Q (.str s) := rfl
@[simp] theorem wE_glob {s : Str} {i : Int} : wE Γ (.glob s i) ρ Q = Q (.int i) := rfl
@[simp] theorem wE_bin {op : BOp} : wE Γ (.bin op a b) ρ Q = wE Γ a ρ fun x => wE Γ b ρ fun y => binW op x y Q := rfl
@[simp] theorem wE_neg : wE Γ (.neg a) ρ Q = wE Γ a ρ fun x => ∃ i, x = .int i ∧ Q (.int (-i)) := rfl
@[simp] theorem wE_cmp {op : COp} : wE Γ (.cmp op a b) ρ Q = wE Γ a ρ fun x => wE Γ b ρ fun y => cmpW op x y fun k => Q (.bool k) := rfl
@[simp] theorem wE_chain {o1 o2 : COp} : wE Γ (.chain o1 o2 a b c) ρ Q = wE Γ a ρ fun x => wE Γ b ρ fun y => cmpW o1 x y fun k => if k = true then wE Γ c ρ fun z => cmpW o2 y z fun k => Q (.bool k) else Q (.bool false) := rfl
@[simp] theorem wE_andV : wE Γ (.andV a b) ρ Q = wE Γ a ρ fun x => ∃ k, x = .bool k ∧ if k = true then wE Γ b ρ Q else Q (.bool false) := rfl
@[simp] theorem wE_orV : wE Γ (.orV a b) ρ Q = wE Γ a ρ fun x => ∃ k, x = .bool k ∧ if k = true then Q (.bool true) else wE Γ b ρ Q := rfl
@[simp] theorem wE_notV : wE Γ (.notV a) ρ Q = wE Γ a ρ fun x => ∃ k, x = .bool k ∧ Q (.bool (!k)) := rfl
@[simp] theorem wE_ite : wE Γ (.ite a b c) ρ Q = wT Γ a ρ fun k => if k = true then wE Γ b ρ Q else wE Γ c ρ Q := rfl
@[simp] theorem wE_tup : wE Γ (.tup a) ρ Q = wA Γ a ρ fun ds => ds.length ≤ sizeLine ∧ Q (.tuple ds) := rfl
@[simp] theorem wE_lst : wE Γ (.lst a) ρ Q = wA Γ a ρ fun ds => ds.length ≤ sizeLine ∧ Q (.list ds) := rfl
@[simp] theorem wE_ix : wE Γ (.ix a b) ρ Q = wE Γ a ρ fun x => wE Γ b ρ fun y => ixW x y Q := rfl
@[simp] theorem wE_slice : wE Γ (.slice a b c) ρ Q = wE Γ a ρ fun x => wP Γ b ρ fun l => wP Γ c ρ fun h => slW x l h Q := rfl
@[simp] theorem wE_rev : wE Γ (.rev a) ρ Q = wE Γ a ρ fun x => revW x Q := rfl
@[simp] theorem wE_call {g : Nat} : wE Γ (.call g a) ρ Q = match Γ[g]? with
    | some sp => wA Γ a ρ fun ds => ∃ Q', sp ds Q' ∧ ∀ d, Q' d → Q d
    | none => False := rfl
@[simp] theorem wE_bi {o : Bi} : wE Γ (.bi o a) ρ Q = wA Γ a ρ fun ds => biW o ds Q := rfl
@[simp] theorem wE_isi {n : Nat} : wE Γ (.isi a n) ρ Q = wE Γ a ρ fun x => isDict x = false ∧ Q (.bool (isiD x n)) := rfl
theorem wE_lc {own : List Nat} {tg it ifs elt : M} : wE Γ (.lc own tg it ifs elt) ρ Q = (noOw ρ own ∧ wI Γ it ρ fun items => items.length ≤ sizeLine ∧ lcL (wG tg) (wTs Γ ifs) (wE Γ elt) (wipeC ρ own) items [] fun ds => Q (.list ds)) := rfl
end
@[simp] theorem wP_nil {Q : Option Int → Prop} : wP Γ .nil ρ Q = Q none := rfl
@[simp] theorem wP_cons {Q : Option Int → Prop} {a b : M} : wP Γ (.cons a b) ρ Q = wE Γ a ρ fun x => ∃ i, x = .int i ∧ Q (some i) := rfl
@[simp] theorem wA_nil {Q : List D → Prop} : wA Γ .nil ρ Q = Q [] := rfl
@[simp] theorem wA_cons {Q : List D → Prop} {a b : M} : wA Γ (.cons a b) ρ Q = wE Γ a ρ fun x => wA Γ b ρ fun xs => Q (x :: xs) := rfl
section
variable {Q : Bool → Prop} {a b c : M}
@[simp] theorem wT_cmpT {op : COp} : wT Γ (.cmpT op a b) ρ Q = wE Γ a ρ fun x => wE Γ b ρ fun y => cmpW op x y Q := rfl
@[simp] theorem wT_chainT {o1 o2 : COp} : wT Γ (.chainT o1 o2 a b c) ρ Q = wE Γ a ρ fun x => wE Γ b ρ fun y => cmpW o1 x y fun k => if k = true then wE Γ c ρ fun z => cmpW o2 y z Q else Q false := rfl
@[simp] theorem wT_andT : wT Γ (.andT a b) ρ Q = wT Γ a ρ fun k => if k = true then wT Γ b ρ Q else Q false := rfl
@[simp] theorem wT_orT : wT Γ (.orT a b) ρ Q = wT Γ a ρ fun k => if k = true then Q true else wT Γ b ρ Q := rfl
@[simp] theorem wT_notT : wT Γ (.notT a) ρ Q = wT Γ a ρ fun k => Q (!k) := rfl
@[simp] theorem wT_tru : wT Γ (.tru a) ρ Q = wE Γ a ρ fun x => truW x Q := rfl
@[simp] theorem wTs_nil : wTs Γ .nil ρ Q = Q true := rfl
@[simp] theorem wTs_cons : wTs Γ (.cons a b) ρ Q = wT Γ a ρ Q := rfl
end
section
variable {Q : List D → Prop} {a b c : M}
@[simp] theorem wI_rng1 : wI Γ (.rng1 a) ρ Q = wE Γ a ρ fun x => ∃ j, x = .int j ∧ small62 j ∧ Q (rngD 0 j.toNat) := rfl
@[simp] theorem wI_rng2 : wI Γ (.rng2 a b) ρ Q = wE Γ a ρ fun x => wE Γ b ρ fun y => ∃ i j, x = .int i ∧ y = .int j ∧ small62 i ∧ small62 j ∧ Q (rngD i (j - i).toNat) := rfl
@[simp] theorem wI_enum : wI Γ (.enum a) ρ Q = wE Γ a ρ fun x => ∃ xs, x = .list xs ∧ Q (enumL 0 xs) := rfl
@[simp] theorem wI_zip : wI Γ (.zip a b) ρ Q = wE Γ a ρ fun x => wE Γ b ρ fun y => ∃ xs ys, x = .list xs ∧ y = .list ys ∧ Q (List.zipWith (fun u v => .tuple [u, v]) xs ys) := rfl
@[simp] theorem wI_revd : wI Γ (.revd a) ρ Q = wE Γ a ρ fun x => ∃ xs, (x = .list xs ∨ x = .tuple xs) ∧ Q xs.reverse := rfl
@[simp] theorem wI_seq : wI Γ (.seq a) ρ Q = wE Γ a ρ fun x => ∃ xs, (x = .list xs ∨ x = .tuple xs) ∧ Q xs := rfl
end
section
variable {Q : Ev → Prop} {d : D} {ds : List D} {t ts : M}
@[simp] theorem wG_var {i : Nat} : wG (.var i) d ρ Q = Q (ρ.set i (.sh d)) := rfl
@[simp] theorem wG_tupT : wG (.tup t) (.tuple ds) ρ Q = wGs t ds ρ Q := rfl
@[simp] theorem wG_tupL : wG (.tup t) (.list ds) ρ Q = wGs t ds ρ Q := rfl
@[simp] theorem wGs_nil : wGs .nil [] ρ Q = Q ρ := rfl
@[simp] theorem wGs_cons : wGs (.cons t ts) (d :: ds) ρ Q = wG t d ρ fun ρ' => wGs ts ds ρ' Q := rfl
end
section
variable {a b : S} {e f g : M} {i j k : Nat}
@[simp] theorem wS_nil : wS Γ .nil E ρ = E.nx ρ := rfl
@[simp] theorem wS_pass : wS Γ .pass E ρ = E.nx ρ := rfl
@[simp] theorem wS_seq : wS Γ (.seq a b) E ρ = wS Γ a { E with nx := wS Γ b E } ρ := rfl
@[simp] theorem wS_set : wS Γ (.set i e) E ρ = wE Γ e ρ fun d => E.nx (ρ.set i (.sh d)) := rfl
@[simp] theorem wS_setO : wS Γ (.setO i e) E ρ = wE Γ e ρ fun d => isL d = true ∧ E.nx (ρ.set i (.ow d)) := rfl
@[simp] theorem wS_setLcT : wS Γ (.setLc true i e) E ρ = wE Γ e ρ fun d => (true = true → isL d = true) ∧ E.nx (ρ.set i (.ow d)) := rfl
@[simp] theorem wS_setLcF : wS Γ (.setLc false i e) E ρ = wE Γ e ρ fun d => (false = true → isL d = true) ∧ E.nx (ρ.set i (.sh d)) := rfl
@[simp] theorem wS_asg {t : M} : wS Γ (.asg t e) E ρ = wE Γ e ρ fun d => wG t d ρ E.nx := rfl
@[simp] theorem wS_par2 {oi oj : Bool} : wS Γ (.par2 i j oi oj e f) E ρ = wE Γ e ρ fun x => (oi = true → isL x = true) ∧ wE Γ f ρ fun y => (oj = true → isL y = true) ∧ E.nx ((ρ.set i (cellOf oi x)).set j (cellOf oj y)) := rfl
@[simp] theorem wS_par3 {oi oj ok : Bool} : wS Γ (.par3 i j k oi oj ok e f g) E ρ = wE Γ e ρ fun x => (oi = true → isL x = true) ∧ wE Γ f ρ fun y => (oj = true → isL y = true) ∧ wE Γ g ρ fun z => (ok = true → isL z = true) ∧ E.nx (((ρ.set i (cellOf oi x)).set j (cellOf oj y)).set k (cellOf ok z)) := rfl
@[simp] theorem cellOf_t {d : D} : cellOf true d = .ow d := rfl
@[simp] theorem cellOf_f {d : D} : cellOf false d = .sh d := rfl
@[simp] theorem wS_aug {op : BOp} : wS Γ (.aug i op e) E ρ = match ρ[i]? with
    | some (.sh d) => wE Γ e ρ fun y => ∃ a b, d = .int a ∧ y = .int b ∧ binW op d y fun z => E.nx (ρ.set i (.sh z))
    | _ => False := rfl
@[simp] theorem wS_setIx : wS Γ (.setIx i f e) E ρ = owL ρ i fun xs => wE Γ e ρ fun y => wE Γ f ρ fun x => ∃ n j, x = .int n ∧ L2.ixN xs.length n = some j ∧ E.nx (ρ.set i (.ow (.list (xs.set j y)))) := rfl
@[simp] theorem wS_augIx {op : BOp} : wS Γ (.augIx i op f e) E ρ = owL ρ i fun xs => wE Γ f ρ fun x => ∃ (n : Nat) (a : Int), x = .int n ∧ xs[n]? = some (.int a) ∧ wE Γ e ρ fun y => ∃ b, y = .int b ∧ binW op (.int a) (.int b) fun z => E.nx (ρ.set i (.ow (.list (xs.set n z)))) := rfl
@[simp] theorem wS_app : wS Γ (.app i e) E ρ = owL ρ i fun xs => wE Γ e ρ fun y => xs.length < sizeLine ∧ E.nx (ρ.set i (.ow (.list (xs ++ [y])))) := rfl
@[simp] theorem wS_ext : wS Γ (.ext i e) E ρ = owL ρ i fun xs => wE Γ e ρ fun y => ∃ ys, y = .list ys ∧ xs.length + ys.length ≤ sizeLine ∧ E.nx (ρ.set i (.ow (.list (xs ++ ys)))) := rfl
@[simp] theorem wS_popD : wS Γ (.popD i) E ρ = owL ρ i fun xs => xs ≠ [] ∧ E.nx (ρ.set i (.ow (.list xs.dropLast))) := rfl
@[simp] theorem wS_popT {t : M} : wS Γ (.popT t i) E ρ = owL ρ i fun xs => ∃ d, xs.getLast? = some d ∧ wG t d (ρ.set i (.ow (.list xs.dropLast))) E.nx := rfl
@[simp] theorem wS_ite : wS Γ (.ite e a b) E ρ = wT Γ e ρ fun k => if k = true then wS Γ a E ρ else wS Γ b E ρ := rfl
@[simp] theorem wS_for {t : M} : wS Γ (.for_ t e a) E ρ = wI Γ e ρ fun items => forL (wG t) (wS Γ a) E items ρ := rfl
@[simp] theorem wS_ret : wS Γ (.ret e) E ρ = wE Γ e ρ E.rt := rfl
@[simp] theorem wS_retN : wS Γ .retN E ρ = E.rt .none := rfl
@[simp] theorem wS_never : wS Γ .never E ρ = False := rfl
@[simp] theorem wS_frz : wS Γ (.frz i a) E ρ = wS Γ a E (frzC ρ i) := rfl
@[simp] theorem wS_mv : wS Γ (.mv i j) E ρ = match ρ[j]? with
    | some (.ow d) => i ≠ j ∧ E.nx ((ρ.set j .un).set i (.ow d))
    | _ => False := rfl
theorem owL_def {F : List D → Prop} : owL ρ i F = match ρ[i]? with
  | some (.ow (.list xs)) => F xs
  | _ => False := rfl
theorem frzC_def : frzC ρ i = match ρ[i]? with
  | some (.ow d) => ρ.set i (.sh d)
  | _ => ρ := rfl
theorem whl_rule (I : Nat → Ev → Prop) {c : M} (m : Nat) (h0 : I m ρ) (h : ∀ m ρ, I m ρ → wT Γ c ρ fun k => if k = true then wS Γ b { E with nx := fun ρ' => ∃ m', m' < m ∧ I m' ρ' } ρ else E.nx ρ) : wS Γ (.whl c b) E ρ := ⟨I, ⟨m, h0⟩, h⟩
end
theorem forL_inv {bind : D → Ev → (Ev → Prop) → Prop} {body : En → Ev → Prop} (I : Nat → Ev → Prop) : ∀ {items : List D} {ρ : Ev}, I 0 ρ → (∀ k x ρ (R : Ev → Prop), items[k]? = some x → I k ρ → (∀ ρ', I (k + 1) ρ' → R ρ') → bind x ρ fun ρ1 => body ⟨R, E.rt⟩ ρ1) → (∀ ρ, I items.length ρ → E.nx ρ) → forL bind body E items ρ := by
  intro items
  induction items generalizing I with
  | nil => intro ρ h0 hs hn; exact hn ρ h0
  | cons x xs ih =>
    intro ρ h0 hs hn
    exact hs 0 x ρ _ rfl h0 fun ρ' h => ih (fun k => I (k + 1)) h (fun k y ρ R hk => hs (k + 1) y ρ R (by simpa using hk)) fun ρ h => hn ρ (by simpa using h)
theorem rngD_len (lo : Int) (n : Nat) : (rngD lo n).length = n := by unfold rngD; simp
theorem rngD_get {lo : Int} {n k : Nat} {x : D} (h : (rngD lo n)[k]? = some x) : k < n ∧ x = .int (lo + k) := by
  unfold rngD at h
  rw [List.getElem?_map] at h
  by_cases hk : k < n
  · rw [List.getElem?_eq_getElem (by simpa using hk)] at h
    simp at h
    exact ⟨hk, h.symm⟩
  · rw [List.getElem?_eq_none (by simpa using hk)] at h
    cases h
/-- a loop over a range -/
theorem for_rng {bind : D → Ev → (Ev → Prop) → Prop} {body : En → Ev → Prop} {lo : Int} {n : Nat} (I : Nat → Ev → Prop) (h0 : I 0 ρ) (hs : ∀ k ρ (R : Ev → Prop), k < n → I k ρ → (∀ ρ', I (k + 1) ρ' → R ρ') → bind (.int (lo + k)) ρ fun ρ1 => body ⟨R, E.rt⟩ ρ1) (hn : ∀ ρ, I n ρ → E.nx ρ) : forL bind body E (rngD lo n) ρ :=
  forL_inv I h0 (fun k x ρ R hk hI hR => by obtain ⟨h1, rfl⟩ := rngD_get hk; exact hs k ρ R h1 hI hR) (by rw [rngD_len]; exact hn)
end
theorem szle (n : Nat) (h : n ≤ 1000 := by decide) : n ≤ sizeLine := Nat.le_trans h (by decide)
@[simp] theorem sz2 : 2 ≤ sizeLine := szle 2
@[simp] theorem sz3 : 3 ≤ sizeLine := szle 3
@[simp] theorem sz4 : 4 ≤ sizeLine := szle 4
@[simp] theorem sz5 : 5 ≤ sizeLine := szle 5
@[simp] theorem sz6 : 6 ≤ sizeLine := szle 6
@[simp] theorem sz7 : 7 ≤ sizeLine := szle 7
@[simp] theorem sz8 : 8 ≤ sizeLine := szle 8
@[simp] theorem sz9 : 9 ≤ sizeLine := szle 9
@[simp] theorem sz12 : 12 ≤ sizeLine := szle 12
/-! operators -/
section
variable {Q : D → Prop} {i j : Int}
@[simp] theorem bin_add : binW .add (.int i) (.int j) Q = Q (.int (i + j)) := rfl
@[simp] theorem bin_sub : binW .sub (.int i) (.int j) Q = Q (.int (i - j)) := rfl
@[simp] theorem bin_mul : binW .mul (.int i) (.int j) Q = (MulOk i j ∧ Q (.int (i * j))) := rfl
theorem bin_fdiv : binW .fdiv (.int i) (.int j) Q = (DivOk j ∧ ((0 < j ∧ Q (.int (i / j))) ∨ (j < 0 ∧ Q (.int (i.fdiv j))))) := rfl
theorem bin_mod : binW .mod (.int i) (.int j) Q = ((0 < j ∧ Q (.int (i % j))) ∨ (j < 0 ∧ Q (.int (i.fmod j)))) := rfl
@[simp] theorem bin_pow : binW .pow (.int i) (.int j) Q = (PowOk i j ∧ Q (.int (i ^ j.toNat))) := rfl
@[simp] theorem bin_addL {xs ys : List D} : binW .add (.list xs) (.list ys) Q = (xs.length + ys.length ≤ sizeLine ∧ Q (.list (xs ++ ys))) := rfl
@[simp] theorem bin_addT {xs ys : List D} : binW .add (.tuple xs) (.tuple ys) Q = (xs.length + ys.length ≤ sizeLine ∧ Q (.tuple (xs ++ ys))) := rfl
@[simp] theorem bin_mulL {xs : List D} {k : Int} : binW .mul (.list xs) (.int k) Q = ((-(2 ^ 63) ≤ k ∧ k < 2 ^ 63) ∧ xs.length * k.toNat ≤ sizeLine ∧ Q (.list (List.replicate k.toNat xs).flatten)) := rfl
theorem bin_mod_pos (h : 0 < j) : binW .mod (.int i) (.int j) Q ↔ Q (.int (i % j)) := by
  rw [bin_mod]
  exact ⟨fun z => z.elim (·.2) fun z => by omega, fun z => .inl ⟨h, z⟩⟩
theorem bin_fdiv_pos (h : 0 < j) : binW .fdiv (.int i) (.int j) Q ↔ j.natAbs.log2 < 9000 ∧ Q (.int (i / j)) := by
  rw [bin_fdiv]
  unfold DivOk
  constructor
  · rintro ⟨⟨_, a⟩, ⟨_, z⟩ | ⟨b, _⟩⟩
    · exact ⟨a, z⟩
    · omega
  · rintro ⟨a, z⟩
    exact ⟨⟨by omega, a⟩, .inl ⟨h, z⟩⟩
@[simp] theorem ix_t0 {x : D} {xs : List D} : ixW (.tuple (x :: xs)) (.int 0) Q ↔ Q x := by
  show (∃ d, L2.atI (x :: xs) 0 = some d ∧ Q d) ↔ _
  have e : L2.atI (x :: xs) 0 = some x := by simp [L2.atI, L2.ixN]
  rw [e]
  simp
@[simp] theorem ix_t1 {x y : D} {xs : List D} : ixW (.tuple (x :: y :: xs)) (.int 1) Q ↔ Q y := by
  show (∃ d, L2.atI (x :: y :: xs) 1 = some d ∧ Q d) ↔ _
  have e : L2.atI (x :: y :: xs) 1 = some y := by
    have h : L2.ixN (xs.length + 1 + 1) 1 = some 1 := by unfold L2.ixN; rw [if_pos (by omega), if_pos (by omega)]; rfl
    simp [L2.atI, h]
  rw [e]
  simp
@[simp] theorem ix_t2 {x y z : D} {xs : List D} : ixW (.tuple (x :: y :: z :: xs)) (.int 2) Q ↔ Q z := by
  show (∃ d, L2.atI (x :: y :: z :: xs) 2 = some d ∧ Q d) ↔ _
  have e : L2.atI (x :: y :: z :: xs) 2 = some z := by
    have h : L2.ixN (xs.length + 1 + 1 + 1) 2 = some 2 := by unfold L2.ixN; rw [if_pos (by omega), if_pos (by omega)]; rfl
    simp [L2.atI, h]
  rw [e]
  simp
@[simp] theorem biW_len {xs : List D} : biW .len [.list xs] Q = Q (.int xs.length) := rfl
@[simp] theorem biW_lenT {xs : List D} : biW .len [.tuple xs] Q = Q (.int xs.length) := rfl
@[simp] theorem biW_abs : biW .abs [.int i] Q = Q (.int i.natAbs) := rfl
@[simp] theorem biW_int : biW .int [.int i] Q = Q (.int i) := rfl
@[simp] theorem biW_intB {b : Bool} : biW .int [.bool b] Q = Q (.int (if b then 1 else 0)) := rfl
@[simp] theorem biW_max : biW .max [.int i, .int j] Q = Q (.int (max i j)) := rfl
@[simp] theorem biW_min : biW .min [.int i, .int j] Q = Q (.int (min i j)) := rfl
@[simp] theorem biW_tupL {xs : List D} : biW .tuple [.list xs] Q = Q (.tuple xs) := rfl
@[simp] theorem biW_tupT {xs : List D} : biW .tuple [.tuple xs] Q = Q (.tuple xs) := rfl
@[simp] theorem biW_lstL {xs : List D} : biW .list [.list xs] Q = Q (.list xs) := rfl
@[simp] theorem biW_lstT {xs : List D} : biW .list [.tuple xs] Q = Q (.list xs) := rfl
end
section
variable {Q : Bool → Prop} {i j : Int}
@[simp] theorem cmp_eqI : cmpW .eq (.int i) (.int j) Q = Q (decide (i = j)) := rfl
@[simp] theorem cmp_neI : cmpW .ne (.int i) (.int j) Q = Q (!decide (i = j)) := rfl
@[simp] theorem cmp_lt : cmpW .lt (.int i) (.int j) Q = Q (decide (i < j)) := rfl
@[simp] theorem cmp_le : cmpW .le (.int i) (.int j) Q = Q (decide (i ≤ j)) := rfl
@[simp] theorem cmp_gt : cmpW .gt (.int i) (.int j) Q = Q (decide (j < i)) := rfl
@[simp] theorem cmp_ge : cmpW .ge (.int i) (.int j) Q = Q (decide (j ≤ i)) := rfl
@[simp] theorem cmp_eqB {a b : Bool} : cmpW .eq (.bool a) (.bool b) Q = Q (decide (a = b)) := rfl
@[simp] theorem cmp_neB {a b : Bool} : cmpW .ne (.bool a) (.bool b) Q = Q (!decide (a = b)) := rfl
@[simp] theorem cmp_isB {a b : Bool} : cmpW .is (.bool a) (.bool b) Q = Q (decide (a = b)) := rfl
@[simp] theorem cmp_isnB {a b : Bool} : cmpW .isn (.bool a) (.bool b) Q = Q (!decide (a = b)) := rfl
@[simp] theorem cmp_isN {x : D} : cmpW .is x .none Q = Q (isN x) := by cases x <;> rfl
@[simp] theorem cmp_isnN {x : D} : cmpW .isn x .none Q = Q (!isN x) := by cases x <;> rfl
@[simp] theorem tru_B {b : Bool} : truW (.bool b) Q = Q b := rfl
@[simp] theorem tru_L {xs : List D} : truW (.list xs) Q = Q (!xs.isEmpty) := rfl
@[simp] theorem isN_i : isN (.int i) = false := rfl
@[simp] theorem isN_n : isN .none = true := rfl
@[simp] theorem isN_t {xs : List D} : isN (.tuple xs) = false := rfl
@[simp] theorem isN_l {xs : List D} : isN (.list xs) = false := rfl
/-- three numbers -/
def tri (n : Int × Int × Int) : D := .tuple [.int n.1, .int n.2.1, .int n.2.2]
theorem tri_eqv {a b c d e f : Int} : PyData.eqv (.tuple [.int a, .int b, .int c]) (.tuple [.int d, .int e, .int f]) = decide ((a, b, c) = (d, e, f)) := by
  simp [PyData.eqv, PyData.eqvAll, Bool.beq_eq_decide_eq]
theorem tri_cm {a b c : Int} : Cm 60 (.tuple [.int a, .int b, .int c]) := ⟨rfl, by simp [PyData.depth, PyData.depthAll]⟩
@[simp] theorem cmp_eq3 {a b c d e f : Int} : cmpW .eq (.tuple [.int a, .int b, .int c]) (.tuple [.int d, .int e, .int f]) Q ↔ Q (decide ((a, b, c) = (d, e, f))) := by
  show (Cm 60 _ ∧ Cm 60 _ ∧ Q (PyData.eqv _ _)) ↔ _
  rw [tri_eqv]
  exact ⟨fun h => h.2.2, fun h => ⟨tri_cm, tri_cm, h⟩⟩
@[simp] theorem cmp_ne3 {a b c d e f : Int} : cmpW .ne (.tuple [.int a, .int b, .int c]) (.tuple [.int d, .int e, .int f]) Q ↔ Q (!decide ((a, b, c) = (d, e, f))) := by
  show (Cm 60 _ ∧ Cm 60 _ ∧ Q (!PyData.eqv _ _)) ↔ _
  rw [tri_eqv]
  exact ⟨fun h => h.2.2, fun h => ⟨tri_cm, tri_cm, h⟩⟩
theorem cmp_eqD {x y : D} (h : Cm 60 x) (h' : Cm 60 y) (n : (∃ xs, x = .tuple xs) ∨ ∃ xs, x = .list xs) : cmpW .eq x y Q ↔ Q (PyData.eqv x y) := by
  rcases n with ⟨xs, rfl⟩ | ⟨xs, rfl⟩
  · show (Cm 60 _ ∧ Cm 60 _ ∧ Q (PyData.eqv _ _)) ↔ _
    exact ⟨fun h => h.2.2, fun z => ⟨h, h', z⟩⟩
  · show (Cm 60 _ ∧ Cm 60 _ ∧ Q (PyData.eqv _ _)) ↔ _
    exact ⟨fun h => h.2.2, fun z => ⟨h, h', z⟩⟩
theorem ix_nat {xs : List D} {n : Nat} {d : D} {Q : D → Prop} (h : xs[n]? = some d) : ixW (.list xs) (.int n) Q ↔ Q d := by
  have hn : n < xs.length := by
    by_cases hn : n < xs.length
    · exact hn
    · rw [List.getElem?_eq_none (by omega)] at h; cases h
  have e : L2.atI xs (n : Int) = some d := by
    have h2 : L2.ixN xs.length (n : Int) = some n := by unfold L2.ixN; rw [if_pos (by omega), if_pos (by omega)]; rfl
    rw [L2.atI, h2]
    exact h
  show (∃ d, L2.atI xs (n : Int) = some d ∧ Q d) ↔ _
  rw [e]
  simp
end
end Mp

/-! Mini, part P: the defs of a text, by name. -/
namespace Mp
open PySem PySem.Spec PyProof.Rows L2
def dd (n : Str) (st : Stmt) : He.DefD := ⟨(n, none), n, n, defArgs st, defBody st, defScope st, [], []⟩
/-- a def stands under its name -/
structure Dn (K : PySem.W.Frag) (mg : Str → Option Value) (n : Str) (st : Stmt) (ps : List Str) : Prop where
  ex : ∃ (f : Addr) (fd : FuncData), FunD K n n (defArgs st) (defBody st) (defScope st) [] [] f fd ∧ mg n = some (.ref f) ∧ Binds K fd ps []
theorem dn_of {K : PySem.W.Frag} {h : Heap} {mg : Str → Option Value} {fa : List He.Fa} {fn : List He.DefD} (X : K.In h) (G : h.Ns mainGlobals mg) (c : He.SaysD fa fn K) {n : Str} {st : Stmt} {ps : List Str} (i : Nat) (h1 : fn[i]? = some (dd n st)) (h2 : fa[i]? = some (.glo n))
    (hb : ∀ (kV doc pm : Value) (an : Option Addr) (cdv ct : Value) (us : List Value), us.length = ps.length → bindArgs (PySem.W.fnOf n n (defArgs st) (defBody st) (defScope st) .none kV doc pm an cdv ct) ⟨us, []⟩ = pure (ps.zip us)) : Dn K mg n st ps := by
  obtain ⟨fd, F⟩ := c.def_ i (d := dd n st) h1
  exact ⟨_, fd, F, He.glo_ok X G (c.fact i (f := .glo n) h2), FunD.bindsN F hb⟩
section
variable {P : Program} {w : World} {K : PySem.W.Frag} {mg : Str → Option Value} {base : Heap}
theorem fn_okD {C : MC} {T : TB} {x : Str} {st : Stmt} {N ps : List Str} (k : Nat) {sp : Spc} {m : S} (hC : C.K = K) (D : Dn K mg x st ps) (Sc : FnScope N ps (defScope st))
    (fx : Fx mg T.cn T.gcd) (cs : Cls P w K mg base C k T.gn T.gs) (hm : mtS T N m (defScope st) (defBody st) = true) (hl : ∀ ds Q, sp ds Q → ds.length = ps.length) (hw : ∀ ds Q, sp ds Q → wS T.gs m ⟨fun _ => Q .none, Q⟩ (initE N.length ds)) : Cl P w K mg base (k + 1) x (liftSp C sp) := by
  obtain ⟨f, fd, F, hmg, hb⟩ := D.ex
  exact fn_ok hC F hmg hb Sc fx cs hm hl hw
end
end Mp

/-! Mini, part Q: the drawing of numbers out of a script. -/
namespace Mp
open PySem PySem.Spec PyProof.Rows L2
abbrev rAdd : R2 := rI0 fun i j => .int (i + j)
abbrev rMul : R2 := rI CMul fun i j => .int (i * j)
abbrev rMod : R2 := rI (fun _ j => 0 < j) fun i j => .int (i % j)
abbrev rDivW : R2 := rI CDivW fun i j => .int (i / j)
abbrev rInt1 : List V → Hp → VK → Prop := fun xs H Q => (∃ i, xs = [.int i] ∧ Q (.int i) H) ∨ ∃ k, xs = [.bl k] ∧ Q (.int (if k then 1 else 0)) H
abbrev tI (i : Int) : TE := tC (.int i)
abbrev tIx (K : PySem.W.Frag) (i : Nat) (j : Int) : TE := tOp (rIxL K) (tVar i) (tI j)
abbrev rLn (K : PySem.W.Frag) : List V → Hp → VK → Prop := fun xs H Q => ∃ x n, xs = [x] ∧ LenV K x H n ∧ Q (.int n) H
abbrev tLen (K : PySem.W.Frag) (i : Nat) : TE := tCB (rLn K) (tCons (tVar i) tNil)
abbrev tInt (t : TE) : TE := tCB rInt1 (tCons t tNil)
def t_draw (K : PySem.W.Frag) : TS :=
  tSeq (tAsg (tIx K 0 0) (gName 2))
    (tSeq (tWhile (tAnd (tB (tGt (tLen K 2) (tI 0))) (tB (tEqI (tIx K 2 0) (tI 0)))) (tDrop (tBM K "list" rPopAt (tVar 2) (tCons (tI 0) tNil))))
      (tSeq (tIfS (tB (tGt (tLen K 2) (tI 0)))
          (tSeq (tAsg (tIx K 2 0) (gName 3)) (tSeq (tAsg (tOp rDivW (tVar 3) (tVar 1)) (gSub (tVar 2) (tI 0) rSetL)) (tRet (tOp rMod (tInt (tVar 3)) (tVar 1))))) tNext)
        (tSeq (tAsg (tOp rMod (tInt (tOp rAdd (tOp rMul (tIx K 0 1) (tI 48271)) (tI 12345))) (tI 2147483647)) (gName 4))
          (tSeq (tAsg (tVar 4) (gSub (tVar 0) (tI 1) rSetL))
            (tRet (tOp rMod (tInt (tOp rDivW (tVar 4) (tI 64))) (tVar 1)))))))
theorem rp_st {C : MC} {H : Hp} {v : V} (h : Rp C H v stTok) : v = .ref C.sA := by
  cases h with
  | st => rfl
  | @dk a kvs ps h e r =>
    cases kvs with
    | nil => cases e
    | cons q qs =>
      simp at e
      rcases q with ⟨q | q, _⟩ <;> exact absurd e.1 (by simp [keyD])
  | @dt a kvs ps h e r =>
    cases kvs with
    | nil => cases e
    | cons q qs => simp at e
theorem small_log {n : Int} (h : n.natAbs < 2 ^ 64) : n.natAbs.log2 < 9000 := by
  by_cases z : n.natAbs = 0
  · rw [z]; decide
  · have := (Nat.log2_lt z).mpr h
    omega
theorem draw_pure {K : PySem.W.Frag} {H : Hp} {sA cA : Addr} {cs : List Int} {seed n : Int} (ne : sA ≠ cA) (h1 : H sA = some (.lst [.ref cA, .int seed])) (h2 : H cA = some (.lst (cs.map V.int))) (h3 : cs.length ≤ 63) (hn : 0 < n) (hl : n.natAbs.log2 < 9000) (D : Ends)
    (hq : ∀ v cs' seed' H', 0 ≤ v → v < n → H' sA = some (.lst [.ref cA, .int seed']) → H' cA = some (.lst (List.map V.int cs')) → cs'.length ≤ 63 → (∀ a, a ≠ sA → a ≠ cA → H' a = H a) → D.rt (.int v) H') :
    t_draw K D [some (.ref sA), some (.int n), none, none, none] H := by
  refine ⟨_, rfl, sA, [.ref cA, .int seed], 0, .ref cA, rfl, rfl, SqL.of h1, rfl, ?_⟩
  refine ⟨fun m σ H' => σ = [some (.ref sA), some (.int n), some (.ref cA), none, none] ∧ ∃ cs' : List Int, m = cs'.length ∧ cs'.length ≤ 63 ∧ H' sA = some (.lst [.ref cA, .int seed]) ∧ H' cA = some (.lst (cs'.map V.int)) ∧ ∀ a, a ≠ sA → a ≠ cA → H' a = H a, ⟨_, rfl, cs, rfl, h3, h1, h2, fun _ _ _ => rfl⟩, ?_⟩
  rintro m σ H1 ⟨rfl, cs1, rfl, l1, e1, e2, fr⟩
  refine ⟨_, rfl, _, cs1.length, rfl, .inl ⟨_, SqL.of e2, by simp⟩, ?_⟩
  refine ⟨_, _, rfl, rfl, _, rfl, ?_⟩
  cases cs1 with
  | nil =>
    refine ⟨_, rfl, _, 0, rfl, .inl ⟨_, SqL.of e2, by simp⟩, _, _, rfl, rfl, _, rfl, ?_⟩
    refine ⟨_, rfl, sA, [.ref cA, .int seed], 1, .int seed, rfl, rfl, SqL.of e1, rfl, ?_⟩
    refine ⟨_, _, rfl, rfl, .inr ⟨by omega, by omega⟩, _, _, rfl, rfl, .inl ⟨_, rfl, _, _, rfl, rfl, by omega, ?_⟩⟩
    refine ⟨_, rfl, _, rfl, sA, _, 1, 1, rfl, rfl, e1, rfl, _, rfl, _, _, rfl, rfl, ⟨by omega, small_log (by decide)⟩, .inl ⟨_, rfl, _, rfl, _, _, rfl, rfl, hn, ?_⟩⟩
    refine hq _ [] _ _ (Int.emod_nonneg _ (by omega)) (Int.emod_lt_of_pos _ hn) upd_same (by rw [upd_ne ne.symm]; exact e2) (by simp) fun a n1 n2 => by rw [upd_ne n1]; exact fr a n1 n2
  | cons x xs =>
    have hp : decide ((0 : Int) < ((x :: xs).length : Nat)) = true := by simp
    have a0 : atI (List.map V.int (x :: xs)) 0 = some (.int x) := by simp [atI, ixN]
    have a1 : ixN (List.map V.int (x :: xs)).length 0 = some 0 := by simp [ixN]
    have a2 : seqIndex? 0 (List.map V.int (x :: xs)).length = some 0 := (ixN_seq a1).1
    rw [if_pos hp]
    refine ⟨_, rfl, cA, _, 0, .int x, rfl, rfl, SqL.of e2, a0, _, _, rfl, rfl, _, rfl, ?_⟩
    by_cases hx : x = 0
    · refine Eq.mpr (if_pos (show decide (x = 0) = true by simpa using hx)) ?_
      refine ⟨_, fun σ' H' q => q, _, rfl, .inl ⟨rfl, _, SqL.of e2⟩, cA, _, 0, 0, .int x, rfl, rfl, e2, by omega, by omega, a2, rfl, xs.length, by simp, rfl, xs, rfl, by simp at l1; omega, by rw [upd_ne ne]; exact e1, upd_same, fun a n1 n2 => by rw [upd_ne n2]; exact fr a n1 n2⟩
    · refine Eq.mpr (if_neg (show ¬ decide (x = 0) = true by simpa using hx)) ?_
      refine ⟨_, rfl, _, (x :: xs).length, rfl, .inl ⟨_, SqL.of e2, by simp⟩, _, _, rfl, rfl, _, rfl, ?_⟩
      refine Eq.mpr (if_pos hp) ?_
      refine ⟨_, rfl, cA, _, 0, .int x, rfl, rfl, SqL.of e2, a0, _, rfl, _, rfl, _, _, rfl, rfl, ⟨hn, hl⟩, _, rfl, cA, _, 0, 0, rfl, rfl, e2, a1, ?_⟩
      refine ⟨_, rfl, .inl ⟨_, rfl, _, rfl, _, _, rfl, rfl, hn, ?_⟩⟩
      exact hq _ (x / n :: xs) seed _ (Int.emod_nonneg _ (by omega)) (Int.emod_lt_of_pos _ hn) (by rw [upd_ne ne]; exact e1) upd_same (by simpa using l1) fun a n1 n2 => by rw [upd_ne n2]; exact fr a n1 n2
/-- the draw keeps its promise -/
theorem draw_sp {K : PySem.W.Frag} {C : MC} {vs : List V} {H : Hp} {Q : VK} {E : XK} (h : liftSp C spDraw vs H Q E) : t_draw K { nx := fun _ H' => Q .non H', rt := Q } (start ["state", "many", "cells", "value", "mixed"] vs) H := by
  obtain ⟨S', ds, Q', mo, ⟨cs, seed, ne, h1, h2, h3⟩, r, ⟨pd, rd⟩, hq⟩ := h
  match ds, pd with
  | [s, .int n], pd =>
    obtain ⟨rfl, hn, hl⟩ := pd
    obtain ⟨v, u, rfl, r1, r2⟩ := r.two'
    have e1 := rp_st r1
    cases r2
    subst e1
    refine draw_pure ne h1 h2 h3 hn hl _ fun v cs' seed' H' l1 l2 f1 f2 f3 fr => ?_
    exact hq (.int v) (rd v ⟨l1, l2⟩) (.int v) H' (fun a o n1 n2 e => by rw [fr a n1 n2]; exact e) ⟨cs', seed', ne, f1, f2, f3⟩ (.int v)
abbrev rAbs1 : List V → Hp → VK → Prop := fun xs H Q => ∃ i, xs = [.int i] ∧ Q (.int (if i < 0 then -i else i)) H
def t_state (K : PySem.W.Frag) : TS :=
  tSeq (tAsg (tI 7) (gName 1))
    (tSeq (tFor (iList K (tVar 0)) (gName 2) (tAsg (tOp rMod (tInt (tOp rAdd (tOp rMul (tVar 1) (tI 31)) (tVar 2))) (tI 1000003)) (gName 1)))
      (tRet (tLst (tCons (tLc (iList K (tVar 0)) (gName 2) tYes (tCB rAbs1 (tCons (tVar 2) tNil)) [2]) (tCons (tOp rAdd (tVar 1) (tI 1)) tNil)))))
theorem state_pure {K : PySem.W.Frag} {H : Hp} {a : Addr} {ns : List Int} (hS : SqL K H a (ns.map V.int)) (hl : ns.length ≤ 63) (D : Ends)
    (hq : ∀ cs seed sA cA H', cs.length ≤ 63 → sA ≠ cA → H' sA = some (.lst [.ref cA, .int seed]) → H' cA = some (.lst (List.map V.int cs)) → D.rt (.ref sA) H') :
    t_state K D [some (.ref a), none, none] H := by
  refine ⟨_, rfl, a, rfl, ⟨_, hS⟩, for_list (xs := ns.map V.int) (fun i σ H' => H' = H ∧ ∃ sd c, σ = [some (.ref a), some (.int sd), c] ∧ 0 ≤ sd ∧ sd < 1000003) ⟨rfl, 7, none, rfl, by omega, by omega⟩ (fun i σ H' _ h => by rw [h.1]; exact hS) ?_ ?_⟩
  · rintro i x σ H' hx ⟨rfl, sd, c, rfl, l1, l2⟩
    rw [List.getElem?_map] at hx
    cases hn : ns[i]? with
    | none => rw [hn] at hx; cases hx
    | some v =>
      rw [hn] at hx
      cases hx
      refine ⟨_, rfl, _, _, rfl, rfl, .inr ⟨by omega, by omega⟩, _, rfl, _, _, rfl, rfl, .inl ⟨_, rfl, _, _, rfl, rfl, by omega, ?_⟩⟩
      exact ⟨rfl, _, _, rfl, Int.emod_nonneg _ (by omega), Int.emod_lt_of_pos _ (by omega)⟩
  · rintro σ H' ⟨rfl, sd, c, rfl, l1, l2⟩
    refine ⟨_, rfl, a, rfl, ⟨_, hS⟩, fun Dl hD => ?_⟩
    have sb : ∀ o, Sub H' (upd H' Dl o) := fun o b u e => by
      rw [upd_ne (fun z => by rw [z, hD] at e; cases e)]; exact e
    refine ⟨fun i m H2 => m = ns.length - i ∧ i ≤ ns.length ∧ ∃ acc : List Int, acc.length = i ∧ H2 = upd H' Dl (.lst (acc.map V.int)), ⟨_, rfl, Nat.zero_le _, [], rfl, rfl⟩, ?_⟩
    rintro i m H2 ⟨rfl, hi, acc, hacc, rfl⟩
    have q := (sb (.lst (acc.map V.int))).sqL hS
    by_cases hlt : i < ns.length
    · refine .inr ⟨⟨_, .int ns[i], q, by simp [hlt]⟩, fun H3 => ns.length - (i + 1) = ns.length - (i + 1) ∧ i + 1 ≤ ns.length ∧ ∃ acc : List Int, acc.length = i + 1 ∧ H3 = upd H' Dl (.lst (acc.map V.int)), fun H3 h3 => ⟨ns.length - (i + 1), by omega, h3⟩, ?_⟩
      rintro x H3 ⟨rfl, hx⟩
      have hx := hx _ q
      rw [List.getElem?_map, List.getElem?_eq_getElem hlt] at hx
      cases hx
      refine ⟨rfl, _, rfl, _, rfl, acc.map V.int, upd_same, by rw [List.length_map]; exact Nat.lt_of_lt_of_le (show acc.length < 64 by omega) (by decide), rfl, hlt, acc ++ [if ns[i] < 0 then -ns[i] else ns[i]], by simp [hacc], ?_⟩
      rw [List.map_append]
      funext b
      unfold upd
      split <;> rfl
    · have e : i = ns.length := by omega
      refine .inl ⟨⟨_, q, by simp [e]⟩, _, rfl, _, _, rfl, rfl, show 2 ≤ sizeLine by decide, fun p hp => ?_⟩
      have np : p ≠ Dl := fun z => by rw [z, upd_same] at hp; cases hp
      exact hq acc _ p Dl _ (by omega) np upd_same (by rw [upd_ne np.symm]; exact upd_same)
/-- the state's promise -/
def spState (K : PySem.W.Frag) : Sp := fun vs H Q _ => ∃ (a : Addr) (ns : List Int), vs = [.ref a] ∧ SqL K H a (ns.map V.int) ∧ ns.length ≤ 63 ∧
  ∀ cs seed sA cA H', cs.length ≤ 63 → sA ≠ cA → H' sA = some (.lst [.ref cA, .int seed]) → H' cA = some (.lst (List.map V.int cs)) → Q (.ref sA) H'
theorem state_sp {K : PySem.W.Frag} {vs : List V} {H : Hp} {Q : VK} {E : XK} (h : spState K vs H Q E) : t_state K { nx := fun _ H' => Q .non H', rt := Q } (start ["script", "seed", "cell"] vs) H := by
  obtain ⟨a, ns, rfl, hS, hl, hq⟩ := h
  exact state_pure hS hl _ hq
end Mp

/-! Mini, part R: the law itself: the state, then the small body. -/
namespace Mp
open PySem PySem.Spec PyProof.Rows L2
section
variable {P : Program} {w : World} {K : PySem.W.Frag} {mg : Str → Option Value} {base : Heap}
def tAny (K : PySem.W.Frag) (Γ : List Spc) (m : S) : TS := fun D σ H => ∃ C : MC, C.K = K ∧ liftS C Γ m D σ H
def spLaw (K : PySem.W.Frag) : Sp := fun vs H Q _ => ∃ (a : Addr) (ns : List Int), vs = [.ref a] ∧ SqL K H a (ns.map V.int) ∧ ns.length ≤ 63 ∧ ∀ H', Q (.bl true) H'
theorem draw_cl {st : Stmt} {k : Nat} {C : MC} (hC : C.K = K) (D : Dn K mg "_law_draw" st ["state", "many"]) (Sc : FnScope ["state", "many", "cells", "value", "mixed"] ["state", "many"] (defScope st))
    (hp : ∀ (cdv : Value) (A : Around) (outer : List Env) (s : Shared) (H : Hp) (E : XK) (f : Addr), PSs (cxOf CXn P w K mg base ["state", "many", "cells", "value", "mixed"] "_law_draw" (defScope st) f cdv A outer s H E) (defBody st) (t_draw K)) : Cl P w K mg base (k + 1) "_law_draw" (liftSp C spDraw) := by
  obtain ⟨f, fd, F, hmg, hb⟩ := D.ex
  refine ⟨f, fd, _, F.ok Sc (fun vs H Q E h => ?_) (fun cdv A outer s H vs Q E hr h => ⟨t_draw K, hp cdv A outer s H E f, draw_sp h⟩), hmg, F.kp, hb⟩
  obtain ⟨S', ds, Q', mo, st, r, hs, _⟩ := h
  rw [r.length]
  match ds, hs with
  | [_, .int _], _ => rfl
theorem law_fn {T : TB} {st : Stmt} {N : List Str} {f fS : Addr} {fd fdS : FuncData} {k : Nat} {m : S} {p1 p2 p3 p4 p5 : Pos} {rest : List Stmt} (F : FunD K "law" "law" (defArgs st) (defBody st) (defScope st) [] [] f fd) (Sc : FnScope ("script" :: "state" :: N) ["script"] (defScope st))
    (FS : FnOk P w K mg base CXn k fS fdS ["script"] (spState K)) (hS : mg "_law_state" = some (.ref fS)) (kS : PySem.W.keepIn K (.ref fS) = true) (bS : Binds K fdS ["script"] [])
    (gS : (defScope st).names.lookup ("_law_state" : Str) = some .globalImplicit) (vS : (defScope st).names.lookup ("script" : Str) = some .local) (vT : (defScope st).names.lookup ("state" : Str) = some .local)
    (hb : defBody st = .Assign [.Name "state" p1] (.Call (.Name "_law_state" p2) [.Name "script" p3] [] p4) p5 :: rest)
    (fx : Fx mg T.cn T.gcd) (cs : ∀ C : MC, C.K = K → Cls P w K mg base C k T.gn T.gs) (hm : mtS T ("script" :: "state" :: N) m (defScope st) rest = true)
    (hw : wS T.gs m ⟨fun _ => False, fun d => d = .bool true⟩ (.un :: .sh stTok :: List.replicate N.length .un)) : FnOk P w K mg base CXn (k + 1) f fd ["script"] (spLaw K) := by
  refine F.ok Sc (fun vs H Q E h => ?_) (fun cdv A outer s H vs Q E hr h => ⟨tSeq (tAsg (tCall (spState K) [] E0 (tCons (tVar 0) tNil)) (gName 1)) (tAny K T.gs m), ?_, ?_⟩)
  · obtain ⟨a, ns, rfl, _⟩ := h; rfl
  · rw [hb]
    refine pss_cons (ps_set (i := 1) Sc.nd rfl (.inl vT) (pe_call FS hr gS hS kS bS .nil (fun _ _ _ _ _ _ _ h => h.elim) (pa_cons (pe_var (i := 0) rfl (.inl vS)) pa_nil)) rfl (.inr vT)) ⟨fun pins s1 σ H1 D I ⟨C, hC, q⟩ => ?_⟩
    exact ((sndS m (gd_of hC Sc.nd Sc.kind hr fx (cs C hC) hr.hd)).1 hm).nox.run pins s1 σ H1 D I q
  · obtain ⟨a, ns, rfl, hs, hl, hq⟩ := h
    refine ⟨_, rfl, a, ns, rfl, hs, hl, fun cl seed sA cA H1 l1 ne e1 e2 => ?_⟩
    have st : StOk ⟨K, sA, cA⟩ H1 := ⟨cl, seed, ne, e1, e2, l1⟩
    have mo : MOk ⟨K, sA, cA⟩ (fun b => b = sA ∨ b = cA) H1 := ⟨.inl rfl, .inr rfl, fun b hb => by
      rcases hb with rfl | rfl
      · rw [e1]; exact fun z => by cases z
      · rw [e2]; exact fun z => by cases z⟩
    have nocell : ∀ {i : Nat} {c : Cell}, ((.un :: .sh stTok :: List.replicate N.length .un : Ev))[i]? = some c → (i = 1 ∧ c = .sh stTok) ∨ c = .un := fun {i c} h => by
      match i with
      | 0 => cases h; exact .inr rfl
      | 1 => cases h; exact .inl ⟨rfl, rfl⟩
      | i + 2 =>
        have h : (List.replicate N.length Cell.un)[i]? = some c := by simpa using h
        rw [List.getElem?_replicate] at h
        split at h
        · cases h; exact .inr rfl
        · cases h
    refine ⟨⟨K, sA, cA⟩, rfl, (fun b => b = sA ∨ b = cA), _, ⟨fun _ => False, fun d => d = .bool true⟩, ⟨?_, fun i d h => ?_, fun i d h => ?_, fun i j d e b h => ?_, st, mo⟩, hw, fun ρ' σ' H' z => z.elim, fun d v H' e _ _ r => ?_⟩
    · unfold L2.start
      simp
    · rcases nocell h with ⟨rfl, e⟩ | e
      · cases e
        exact ⟨_, rfl, .st⟩
      · cases e
    · rcases nocell h with ⟨_, e⟩ | e <;> cases e
    · rcases nocell h with ⟨_, e⟩ | e <;> cases e
    · subst e
      cases r
      exact hq H'
end
end Mp

/-! Numbers: heights by a base, opposite numbers by a size. -/
namespace Nu
/-- how often p divides a -/
def hiF : Nat → Int → Int → Nat
  | 0, _, _ => 0
  | n + 1, p, a => if a % p = 0 then hiF n p (a / p) + 1 else 0
def hi (p a : Int) : Nat := hiF a.natAbs p a
theorem hiF_eq {p : Int} (hp : 2 ≤ p) : ∀ (k n : Nat) {u : Int}, ¬ p ∣ u → k ≤ n → hiF n p (p ^ k * u) = k
  | 0, n, u, hu, _ => by
    rw [Int.pow_zero, Int.one_mul]
    cases n with
    | zero => rfl
    | succ n =>
      unfold hiF
      rw [if_neg fun z => hu (Int.dvd_of_emod_eq_zero z)]
  | k + 1, n, u, hu, h => by
    cases n with
    | zero => omega
    | succ n =>
      have e : p ^ (k + 1) * u = p * (p ^ k * u) := by rw [Int.pow_succ, Int.mul_comm (p ^ k) p, Int.mul_assoc]
      unfold hiF
      rw [e, if_pos (Int.mul_emod_right _ _), Int.mul_ediv_cancel_left _ (by omega), hiF_eq hp k n hu (by omega)]
theorem nz_of {p u : Int} (hu : ¬ p ∣ u) : u ≠ 0 := fun z => hu (z ▸ Int.dvd_zero p)
theorem pow_pos {p : Int} (hp : 2 ≤ p) (k : Nat) : 0 < p ^ k := Int.pow_pos (by omega)
theorem le_natAbs_pow {p : Int} (hp : 2 ≤ p) (k : Nat) {u : Int} (hu : u ≠ 0) : k < (p ^ k * u).natAbs := by
  rw [Int.natAbs_mul, Int.natAbs_pow]
  have h1 : 2 ^ k ≤ p.natAbs ^ k := Nat.pow_le_pow_left (by omega) k
  have h2 : k < 2 ^ k := Nat.lt_two_pow_self
  have h3 : 0 < u.natAbs := by omega
  calc k < p.natAbs ^ k := by omega
    _ ≤ p.natAbs ^ k * u.natAbs := Nat.le_mul_of_pos_right _ h3
theorem hi_eq {p : Int} (hp : 2 ≤ p) (k : Nat) {u : Int} (hu : ¬ p ∣ u) : hi p (p ^ k * u) = k := hiF_eq hp k _ hu (Nat.le_of_lt (le_natAbs_pow hp k (nz_of hu)))
theorem hi_ex {p : Int} (hp : 2 ≤ p) : ∀ (n : Nat) {a : Int}, a.natAbs ≤ n → a ≠ 0 → ∃ (k : Nat) (u : Int), a = p ^ k * u ∧ ¬ p ∣ u
  | 0, a, h, h0 => by omega
  | n + 1, a, h, h0 => by
    by_cases hd : p ∣ a
    · obtain ⟨b, rfl⟩ := hd
      have hb : b ≠ 0 := fun z => h0 (by rw [z, Int.mul_zero])
      have hl : b.natAbs ≤ n := by
        rw [Int.natAbs_mul] at h
        have : 2 ≤ p.natAbs := by omega
        have h1 : 2 * b.natAbs ≤ p.natAbs * b.natAbs := Nat.mul_le_mul_right _ this
        omega
      obtain ⟨k, u, rfl, hu⟩ := hi_ex hp n hl hb
      exact ⟨k + 1, u, by rw [Int.pow_succ, Int.mul_comm (p ^ k) p, Int.mul_assoc], hu⟩
    · exact ⟨0, a, by rw [Int.pow_zero, Int.one_mul], hd⟩
theorem hi_spec {p a : Int} (hp : 2 ≤ p) (h0 : a ≠ 0) : ∃ u, a = p ^ hi p a * u ∧ ¬ p ∣ u := by
  obtain ⟨k, u, e, hu⟩ := hi_ex hp _ (Nat.le_refl _) h0
  have : hi p a = k := by rw [e]; exact hi_eq hp k hu
  exact ⟨u, by rw [this]; exact e, hu⟩
theorem hi_zero {p a : Int} (hp : 2 ≤ p) (h : ¬ p ∣ a) : hi p a = 0 := by
  have := hi_eq hp 0 h
  rwa [Int.pow_zero, Int.one_mul] at this
/-- the step of the loops -/
theorem hi_step {p a : Int} (hp : 2 ≤ p) (h0 : a ≠ 0) (hd : p ∣ a) : hi p a = hi p (a / p) + 1 ∧ a / p ≠ 0 ∧ (a / p).natAbs < a.natAbs := by
  obtain ⟨b, rfl⟩ := hd
  have hb : b ≠ 0 := fun z => h0 (by rw [z, Int.mul_zero])
  rw [Int.mul_ediv_cancel_left _ (by omega)]
  obtain ⟨u, e, hu⟩ := hi_spec (p := p) hp hb
  refine ⟨?_, hb, ?_⟩
  · have h1 : p * b = p ^ (hi p b + 1) * u := by rw [Int.pow_succ, Int.mul_comm (p ^ _) p, Int.mul_assoc, ← e]
    rw [h1]
    exact hi_eq hp _ hu
  · rw [Int.natAbs_mul]
    have h2 : 2 ≤ p.natAbs := by omega
    have h3 : 2 * b.natAbs ≤ p.natAbs * b.natAbs := Nat.mul_le_mul_right _ h2
    omega
theorem hi_lt {p a : Int} (hp : 2 ≤ p) (h0 : a ≠ 0) : hi p a < a.natAbs := by
  obtain ⟨u, e, hu⟩ := hi_spec hp h0
  have := le_natAbs_pow hp (hi p a) (nz_of hu)
  rwa [← e] at this
theorem hi_dvd {p a : Int} (hp : 2 ≤ p) (h0 : a ≠ 0) (k : Nat) : k ≤ hi p a ↔ p ^ k ∣ a := by
  obtain ⟨u, e, hu⟩ := hi_spec hp h0
  constructor
  · intro h
    rw [e, show hi p a = k + (hi p a - k) by omega, Int.pow_add, Int.mul_assoc]
    exact Int.dvd_mul_right _ _
  · intro h
    by_cases hk : k ≤ hi p a
    · exact hk
    · exfalso
      rw [e, show k = hi p a + (1 + (k - hi p a - 1)) by omega, Int.pow_add, Int.pow_add, Int.pow_one] at h
      have h1 := Int.dvd_of_mul_dvd_mul_left (show p ^ hi p a ≠ 0 by have := pow_pos hp (hi p a); omega) h
      exact hu (Int.dvd_trans (Int.dvd_mul_right _ _) h1)
/-- how many bits at most -/
def B (k : Nat) (x : Int) : Prop := x.natAbs < 2 ^ k
theorem B.mono {k l : Nat} {x : Int} (h : B k x) (hl : k ≤ l := by decide) : B l x := Nat.lt_of_lt_of_le h (Nat.pow_le_pow_right (by decide) hl)
theorem B.mul {k l : Nat} {x y : Int} (h : B k x) (h' : B l y) : B (k + l) (x * y) := by
  unfold B at *
  rw [Int.natAbs_mul, Nat.pow_add]
  exact Nat.mul_lt_mul'' h h'
theorem B.add {k : Nat} {x y : Int} (h : B k x) (h' : B k y) : B (k + 1) (x + y) := by
  unfold B at *
  have := Int.natAbs_add_le x y
  rw [Nat.pow_succ]
  omega
theorem B.neg {k : Nat} {x : Int} (h : B k x) : B k (-x) := by unfold B at *; rwa [Int.natAbs_neg]
theorem B.sub {k : Nat} {x y : Int} (h : B k x) (h' : B k y) : B (k + 1) (x - y) := by rw [Int.sub_eq_add_neg]; exact h.add h'.neg
theorem B.of {k : Nat} {x : Int} (h : x.natAbs < 2 ^ k := by first | decide | omega) : B k x := h
theorem B.pow {k : Nat} {x : Int} (h : B k x) : ∀ n : Nat, B (k * n + 1) (x ^ n)
  | 0 => by unfold B; rw [Int.pow_zero]; simp [Nat.pow_succ]
  | n + 1 => by
    have h1 := (B.pow h n).mul h
    rw [Int.pow_succ]
    rw [show k * (n + 1) + 1 = k * n + 1 + k by rw [Nat.mul_succ]; omega]
    exact h1
theorem B.emod {k : Nat} {x m : Int} (h : B k m) (hm : 0 < m) : B k (x % m) := by
  unfold B at *
  have h1 := Int.emod_nonneg x (show m ≠ 0 by omega)
  have h2 := Int.emod_lt_of_pos x hm
  omega
theorem B.ediv {k : Nat} {x m : Int} (h : B k x) : B k (x / m) := by
  unfold B at *
  have := Int.natAbs_ediv_le_natAbs x m
  omega
end Nu
namespace Nu
/-- together they reach 1 -/
def Bz (a n : Int) : Prop := ∃ x y : Int, x * n + y * a = 1
theorem Bz.pow {a p : Int} (h : Bz a p) : ∀ k : Nat, Bz a (p ^ k)
  | 0 => ⟨1, 0, by rw [Int.pow_zero]; omega⟩
  | k + 1 => by
    obtain ⟨x, y, e⟩ := h
    obtain ⟨X, Y, E⟩ := Bz.pow ⟨x, y, e⟩ k
    refine ⟨X * x, X * p ^ k * y + Y * x * p + Y * y * a, ?_⟩
    have h1 : (X * p ^ k + Y * a) * (x * p + y * a) = 1 := by rw [e, E]; rfl
    rw [← h1, Int.pow_succ]
    simp only [Int.add_mul, Int.mul_add]
    simp only [Int.mul_assoc, Int.mul_comm, Int.mul_left_comm]
    omega
theorem Bz.emod {a n : Int} (h : Bz a n) : Bz (a % n) n := by
  obtain ⟨x, y, e⟩ := h
  refine ⟨x + y * (a / n), y, ?_⟩
  have h1 := Int.mul_ediv_add_emod a n
  rw [← e]
  conv => rhs; rw [← h1]
  simp only [Int.add_mul, Int.mul_add]
  simp only [Int.mul_assoc, Int.mul_comm, Int.mul_left_comm]
  omega
theorem Bz.symm {a n : Int} (h : Bz a n) : Bz n a := by
  obtain ⟨x, y, e⟩ := h
  exact ⟨y, x, by omega⟩
theorem Bz.neg {a n : Int} (h : Bz a n) : Bz (-a) n := by
  obtain ⟨x, y, e⟩ := h
  exact ⟨x, -y, by rw [Int.neg_mul_neg]; exact e⟩
/-- what divides a product and has no common part with one factor divides the other -/
theorem Bz.dvd {a n b : Int} (h : Bz a n) (hd : n ∣ a * b) : n ∣ b := by
  obtain ⟨x, y, e⟩ := h
  obtain ⟨c, hc⟩ := hd
  refine ⟨x * b + y * c, ?_⟩
  grind
open Classical in
noncomputable def inv (a n : Int) : Int := if h : ∃ v : Int, 0 ≤ v ∧ v < n ∧ n ∣ a * v - 1 then h.choose else 0
theorem inv_eq {a n v : Int} (h0 : 0 ≤ v) (h1 : v < n) (hd : n ∣ a * v - 1) : inv a n = v := by
  have h : ∃ v : Int, 0 ≤ v ∧ v < n ∧ n ∣ a * v - 1 := ⟨v, h0, h1, hd⟩
  unfold inv
  rw [dif_pos h]
  obtain ⟨c0, c1, c2⟩ := h.choose_spec
  generalize h.choose = w at c0 c1 c2
  obtain ⟨s, hs⟩ := hd
  obtain ⟨t, ht⟩ := c2
  have e : w - v = n * (t * v - s * w) := by grind
  have : n ∣ w - v := ⟨_, e⟩
  by_cases hz : w - v = 0
  · omega
  · have h2 := Int.le_of_dvd (a := n) (b := (w - v).natAbs) (by omega) (Int.dvd_natAbs.mpr this)
    omega
theorem inv_mod {a n t : Int} (hn : 0 < n) (hd : n ∣ a * t - 1) : inv a n = t % n := by
  refine inv_eq (Int.emod_nonneg _ (by omega)) (Int.emod_lt_of_pos _ hn) ?_
  have h1 := Int.mul_ediv_add_emod t n
  have : a * (t % n) - 1 = (a * t - 1) - n * (a * (t / n)) := by
    grind
  rw [this]
  exact Int.dvd_sub hd (Int.dvd_mul_right _ _)
/-- primes up to 97 -/
def Pr (p : Int) : Prop := 2 ≤ p ∧ p ≤ 97 ∧ ∀ a, ¬ p ∣ a → Bz a p
theorem pr_of {n : Nat} (h : 2 ≤ n) (h' : n ≤ 97) (hd : ∀ r : Nat, r < n → r = 0 ∨ ∃ y : Nat, y < n ∧ y * r % n = 1) : Pr n := by
  refine ⟨by omega, by omega, fun a ha => ?_⟩
  have h1 := Int.emod_nonneg a (show (n : Int) ≠ 0 by omega)
  have h2 := Int.emod_lt_of_pos a (show (0 : Int) < n by omega)
  rcases hd (a % n).toNat (by omega) with hr | ⟨y, _, hy⟩
  · exact (ha (Int.dvd_of_emod_eq_zero (by omega))).elim
  · have e := Nat.div_add_mod (y * (a % n).toNat) n
    rw [hy] at e
    have e2 : (n : Int) * ((y * (a % n).toNat / n : Nat) : Int) + 1 = (y : Int) * (a % n) := by
      have : ((n * (y * (a % n).toNat / n) + 1 : Nat) : Int) = ((y * (a % n).toNat : Nat) : Int) := by rw [e]
      rw [Int.natCast_add, Int.natCast_mul, Int.natCast_mul, Int.toNat_of_nonneg h1] at this
      exact this
    have h3 := Int.mul_ediv_add_emod a n
    refine ⟨-((y * (a % n).toNat / n : Nat) : Int) - y * (a / n), y, ?_⟩
    have e3 : (y : Int) * a = y * (n * (a / n)) + y * (a % n) := by conv => lhs; rw [← h3, Int.mul_add]
    rw [e3, Int.sub_mul, Int.neg_mul]
    simp only [Int.mul_assoc, Int.mul_comm, Int.mul_left_comm] at e2 ⊢
    omega
theorem pr2 : Pr 2 := pr_of (n := 2) (by decide) (by decide) (by decide +kernel)
theorem pr3 : Pr 3 := pr_of (n := 3) (by decide) (by decide) (by decide +kernel)
theorem pr5 : Pr 5 := pr_of (n := 5) (by decide) (by decide) (by decide +kernel)
theorem pr7 : Pr 7 := pr_of (n := 7) (by decide) (by decide) (by decide +kernel)
theorem pr31 : Pr 31 := pr_of (n := 31) (by decide) (by decide) (by decide +kernel)
theorem pr97 : Pr 97 := pr_of (n := 97) (by decide) (by decide) (by decide +kernel)
end Nu

namespace K05
open PySem PySem.Spec PyProof.Rows L2 Mp
def top (i : Nat) : Stmt := PySem.Challenge.pw_deepdigits_k05_whole_numbers_to_great_de.main.body.getD i (.Pass ⟨0, 0, 0, 0⟩)
abbrev d_raised : Stmt := top 6
abbrev d_divided_out : Stmt := top 7
abbrev d_height : Stmt := top 8
abbrev d_back_of : Stmt := top 9
abbrev d_is_number : Stmt := top 10
abbrev d_end_of : Stmt := top 11
abbrev d_settled : Stmt := top 12
abbrev d_made : Stmt := top 13
abbrev d_minus_fraction : Stmt := top 14
abbrev d_value_of : Stmt := top 15
abbrev d_has : Stmt := top 16
abbrev d_plus : Stmt := top 17
abbrev d_negative : Stmt := top 18
abbrev d_minus : Stmt := top 19
abbrev d_times : Stmt := top 20
abbrev d_over : Stmt := top 21
abbrev d_agree : Stmt := top 22
abbrev d_cut : Stmt := top 23
abbrev d_power : Stmt := top 24
abbrev d_law_state : Stmt := top 26
abbrev d_law_draw : Stmt := top 27
abbrev d_law_pick : Stmt := top 28
abbrev d_law_power : Stmt := top 29
abbrev d_law_trimmed : Stmt := top 30
abbrev d_law_common : Stmt := top 31
abbrev d_law_bare : Stmt := top 32
abbrev d_law_high : Stmt := top 33
abbrev d_law_made : Stmt := top 34
abbrev d_law_back : Stmt := top 35
abbrev d_law_end : Stmt := top 36
abbrev d_law_fraction : Stmt := top 37
abbrev d_law_has : Stmt := top 38
abbrev d_law_number : Stmt := top 39
abbrev d_law_sum : Stmt := top 40
abbrev d_law_product : Stmt := top 41
abbrev d_law_quotient : Stmt := top 42
abbrev d_law : Stmt := top 43
def fn : List He.DefD := [dd "raised" d_raised, dd "divided_out" d_divided_out, dd "height" d_height, dd "back_of" d_back_of, dd "is_number" d_is_number, dd "end_of" d_end_of, dd "settled" d_settled, dd "made" d_made, dd "minus_fraction" d_minus_fraction, dd "value_of" d_value_of, dd "has" d_has, dd "plus" d_plus, dd "negative" d_negative, dd "minus" d_minus, dd "times" d_times, dd "over" d_over, dd "agree" d_agree, dd "cut" d_cut, dd "power" d_power, dd "_law_state" d_law_state, dd "_law_draw" d_law_draw, dd "_law_pick" d_law_pick, dd "_law_power" d_law_power, dd "_law_trimmed" d_law_trimmed, dd "_law_common" d_law_common, dd "_law_bare" d_law_bare, dd "_law_high" d_law_high, dd "_law_made" d_law_made, dd "_law_back" d_law_back, dd "_law_end" d_law_end, dd "_law_fraction" d_law_fraction, dd "_law_has" d_law_has, dd "_law_number" d_law_number, dd "_law_sum" d_law_sum, dd "_law_product" d_law_product, dd "_law_quotient" d_law_quotient, dd "law" d_law]
def fa : List He.Fa := [.glo "raised", .glo "divided_out", .glo "height", .glo "back_of", .glo "is_number", .glo "end_of", .glo "settled", .glo "made", .glo "minus_fraction", .glo "value_of", .glo "has", .glo "plus", .glo "negative", .glo "minus", .glo "times", .glo "over", .glo "agree", .glo "cut", .glo "power", .glo "_law_state", .glo "_law_draw", .glo "_law_pick", .glo "_law_power", .glo "_law_trimmed", .glo "_law_common", .glo "_law_bare", .glo "_law_high", .glo "_law_made", .glo "_law_back", .glo "_law_end", .glo "_law_fraction", .glo "_law_has", .glo "_law_number", .glo "_law_sum", .glo "_law_product", .glo "_law_quotient", .glo "law", .free "len", .free "abs", .free "int", .free "sum", .free "max", .free "min", .free "sorted", .free "tuple", .free "list", .free "range", .free "enumerate", .free "zip", .free "reversed", .free "isinstance", .free "str", .free "bool", .free "set", .free "dict", .free "any", .free "all", .int "MOST_SHIFT" (400), .int "MOST_DEPTH" (200)]
abbrev R : PySem.W.OpenRow := PySem.W.OpenLaw.row PySem.Challenge.rw_deepdigits_k05_whole_numbers_to_great_de
abbrev hk : PySem.W.Hook := He.hookD 4 fa fn
def ob (s : PySem.W.SharedT) : He.AlD := He.obsDG 4 fa fn (HandSHeadRun.getT s)
theorem ob_eq (s : PySem.W.SharedT) : ob s = hk.obs s.abs := He.obsDG_eq (HandSHeadRun.getT_eq s)
def names : List PySem.Str := "DigitError" :: "VagueError" :: "MOST_SHIFT" :: "MOST_DEPTH" :: "raised" :: "divided_out" :: "height" :: "back_of" :: "is_number" :: "end_of" :: "settled" :: "made" :: "minus_fraction" :: "value_of" :: "has" :: "plus" :: "negative" :: "minus" :: "times" :: "over" :: "agree" :: "cut" :: "power" :: "_law_state" :: "_law_draw" :: "_law_pick" :: "_law_power" :: "_law_trimmed" :: "_law_common" :: "_law_bare" :: "_law_high" :: "_law_made" :: "_law_back" :: "_law_end" :: "_law_fraction" :: "_law_has" :: "_law_number" :: "_law_sum" :: "_law_product" :: "_law_quotient" :: []
theorem run (w : World) : HandSHeadRun.RunEq R (PySem.W.view R.prog [43]) hk ob 3000 names w := by
  intro os
  kernel_rfl
def cns : List (Str × Int) := [("MOST_SHIFT", 400), ("MOST_DEPTH", 200)]
structure Cx5 (K : PySem.W.Frag) (mg : Str → Option Value) : Prop where
  fx : Fx mg cns false
  raised : Dn K mg "raised" d_raised ["p", "many"]
  divided_out : Dn K mg "divided_out" d_divided_out ["p", "a"]
  height : Dn K mg "height" d_height ["p", "a", "b"]
  back_of : Dn K mg "back_of" d_back_of ["a", "n"]
  is_number : Dn K mg "is_number" d_is_number ["p", "number"]
  end_of : Dn K mg "end_of" d_end_of ["number"]
  settled : Dn K mg "settled" d_settled ["p", "whole", "shift", "end"]
  made : Dn K mg "made" d_made ["p", "a", "b", "end"]
  minus_fraction : Dn K mg "minus_fraction" d_minus_fraction ["a", "b", "c", "e"]
  value_of : Dn K mg "value_of" d_value_of ["p", "number"]
  has : Dn K mg "has" d_has ["p", "number", "a", "b"]
  plus : Dn K mg "plus" d_plus ["p", "one", "other"]
  negative : Dn K mg "negative" d_negative ["p", "number"]
  minus : Dn K mg "minus" d_minus ["p", "one", "other"]
  times : Dn K mg "times" d_times ["p", "one", "other"]
  over : Dn K mg "over" d_over ["p", "one", "other"]
  agree : Dn K mg "agree" d_agree ["p", "one", "other"]
  cut : Dn K mg "cut" d_cut ["p", "number", "end"]
  power : Dn K mg "power" d_power ["p", "number", "many"]
  law_state : Dn K mg "_law_state" d_law_state ["script"]
  law_draw : Dn K mg "_law_draw" d_law_draw ["state", "many"]
  law_pick : Dn K mg "_law_pick" d_law_pick ["state", "row"]
  law_power : Dn K mg "_law_power" d_law_power ["p", "many"]
  law_trimmed : Dn K mg "_law_trimmed" d_law_trimmed ["row"]
  law_common : Dn K mg "_law_common" d_law_common ["row"]
  law_bare : Dn K mg "_law_bare" d_law_bare ["row"]
  law_high : Dn K mg "_law_high" d_law_high ["p", "number"]
  law_made : Dn K mg "_law_made" d_law_made ["p", "a", "b", "end"]
  law_back : Dn K mg "_law_back" d_law_back ["one", "m"]
  law_end : Dn K mg "_law_end" d_law_end ["number"]
  law_fraction : Dn K mg "_law_fraction" d_law_fraction ["p", "number", "more"]
  law_has : Dn K mg "_law_has" d_law_has ["p", "number", "a", "b"]
  law_number : Dn K mg "_law_number" d_law_number ["state", "p"]
  law_sum : Dn K mg "_law_sum" d_law_sum ["p", "one", "other", "sign"]
  law_product : Dn K mg "_law_product" d_law_product ["p", "one", "other"]
  law_quotient : Dn K mg "_law_quotient" d_law_quotient ["p", "one", "other"]
  law : Dn K mg "law" d_law ["script"]
theorem facts {K : PySem.W.Frag} {h : Heap} {mg : Str → Option Value} (X : K.In h) (G : h.Ns mainGlobals mg) (c : He.SaysD fa fn K) : Cx5 K mg where
  fx := {
    con := by
      intro x i hx
      simp only [cns, List.mem_cons, List.not_mem_nil, or_false, Prod.mk.injEq] at hx
      rcases hx with ⟨rfl, rfl⟩ | ⟨rfl, rfl⟩
      · exact He.int_ok X G (c.fact 57 (f := .int "MOST_SHIFT" (400)) rfl)
      · exact He.int_ok X G (c.fact 58 (f := .int "MOST_DEPTH" (200)) rfl)
    blt := by
      intro x hx
      simp only [bltNames, List.mem_cons, List.not_mem_nil, or_false] at hx
      rcases hx with rfl | rfl | rfl | rfl | rfl | rfl | rfl | rfl | rfl | rfl | rfl | rfl | rfl | rfl | rfl | rfl | rfl | rfl | rfl | rfl
      · exact He.free_ok X G (c.fact 37 (f := .free "len") rfl)
      · exact He.free_ok X G (c.fact 38 (f := .free "abs") rfl)
      · exact He.free_ok X G (c.fact 39 (f := .free "int") rfl)
      · exact He.free_ok X G (c.fact 40 (f := .free "sum") rfl)
      · exact He.free_ok X G (c.fact 41 (f := .free "max") rfl)
      · exact He.free_ok X G (c.fact 42 (f := .free "min") rfl)
      · exact He.free_ok X G (c.fact 43 (f := .free "sorted") rfl)
      · exact He.free_ok X G (c.fact 44 (f := .free "tuple") rfl)
      · exact He.free_ok X G (c.fact 45 (f := .free "list") rfl)
      · exact He.free_ok X G (c.fact 46 (f := .free "range") rfl)
      · exact He.free_ok X G (c.fact 47 (f := .free "enumerate") rfl)
      · exact He.free_ok X G (c.fact 48 (f := .free "zip") rfl)
      · exact He.free_ok X G (c.fact 49 (f := .free "reversed") rfl)
      · exact He.free_ok X G (c.fact 50 (f := .free "isinstance") rfl)
      · exact He.free_ok X G (c.fact 51 (f := .free "str") rfl)
      · exact He.free_ok X G (c.fact 52 (f := .free "bool") rfl)
      · exact He.free_ok X G (c.fact 53 (f := .free "set") rfl)
      · exact He.free_ok X G (c.fact 54 (f := .free "dict") rfl)
      · exact He.free_ok X G (c.fact 55 (f := .free "any") rfl)
      · exact He.free_ok X G (c.fact 56 (f := .free "all") rfl)
    gcd := fun h => by cases h }
  raised := dn_of X G c 0 rfl rfl fun _ _ _ _ _ _ us hl => match us, hl with | [_, _], _ => rfl
  divided_out := dn_of X G c 1 rfl rfl fun _ _ _ _ _ _ us hl => match us, hl with | [_, _], _ => rfl
  height := dn_of X G c 2 rfl rfl fun _ _ _ _ _ _ us hl => match us, hl with | [_, _, _], _ => rfl
  back_of := dn_of X G c 3 rfl rfl fun _ _ _ _ _ _ us hl => match us, hl with | [_, _], _ => rfl
  is_number := dn_of X G c 4 rfl rfl fun _ _ _ _ _ _ us hl => match us, hl with | [_, _], _ => rfl
  end_of := dn_of X G c 5 rfl rfl fun _ _ _ _ _ _ us hl => match us, hl with | [_], _ => rfl
  settled := dn_of X G c 6 rfl rfl fun _ _ _ _ _ _ us hl => match us, hl with | [_, _, _, _], _ => rfl
  made := dn_of X G c 7 rfl rfl fun _ _ _ _ _ _ us hl => match us, hl with | [_, _, _, _], _ => rfl
  minus_fraction := dn_of X G c 8 rfl rfl fun _ _ _ _ _ _ us hl => match us, hl with | [_, _, _, _], _ => rfl
  value_of := dn_of X G c 9 rfl rfl fun _ _ _ _ _ _ us hl => match us, hl with | [_, _], _ => rfl
  has := dn_of X G c 10 rfl rfl fun _ _ _ _ _ _ us hl => match us, hl with | [_, _, _, _], _ => rfl
  plus := dn_of X G c 11 rfl rfl fun _ _ _ _ _ _ us hl => match us, hl with | [_, _, _], _ => rfl
  negative := dn_of X G c 12 rfl rfl fun _ _ _ _ _ _ us hl => match us, hl with | [_, _], _ => rfl
  minus := dn_of X G c 13 rfl rfl fun _ _ _ _ _ _ us hl => match us, hl with | [_, _, _], _ => rfl
  times := dn_of X G c 14 rfl rfl fun _ _ _ _ _ _ us hl => match us, hl with | [_, _, _], _ => rfl
  over := dn_of X G c 15 rfl rfl fun _ _ _ _ _ _ us hl => match us, hl with | [_, _, _], _ => rfl
  agree := dn_of X G c 16 rfl rfl fun _ _ _ _ _ _ us hl => match us, hl with | [_, _, _], _ => rfl
  cut := dn_of X G c 17 rfl rfl fun _ _ _ _ _ _ us hl => match us, hl with | [_, _, _], _ => rfl
  power := dn_of X G c 18 rfl rfl fun _ _ _ _ _ _ us hl => match us, hl with | [_, _, _], _ => rfl
  law_state := dn_of X G c 19 rfl rfl fun _ _ _ _ _ _ us hl => match us, hl with | [_], _ => rfl
  law_draw := dn_of X G c 20 rfl rfl fun _ _ _ _ _ _ us hl => match us, hl with | [_, _], _ => rfl
  law_pick := dn_of X G c 21 rfl rfl fun _ _ _ _ _ _ us hl => match us, hl with | [_, _], _ => rfl
  law_power := dn_of X G c 22 rfl rfl fun _ _ _ _ _ _ us hl => match us, hl with | [_, _], _ => rfl
  law_trimmed := dn_of X G c 23 rfl rfl fun _ _ _ _ _ _ us hl => match us, hl with | [_], _ => rfl
  law_common := dn_of X G c 24 rfl rfl fun _ _ _ _ _ _ us hl => match us, hl with | [_], _ => rfl
  law_bare := dn_of X G c 25 rfl rfl fun _ _ _ _ _ _ us hl => match us, hl with | [_], _ => rfl
  law_high := dn_of X G c 26 rfl rfl fun _ _ _ _ _ _ us hl => match us, hl with | [_, _], _ => rfl
  law_made := dn_of X G c 27 rfl rfl fun _ _ _ _ _ _ us hl => match us, hl with | [_, _, _, _], _ => rfl
  law_back := dn_of X G c 28 rfl rfl fun _ _ _ _ _ _ us hl => match us, hl with | [_, _], _ => rfl
  law_end := dn_of X G c 29 rfl rfl fun _ _ _ _ _ _ us hl => match us, hl with | [_], _ => rfl
  law_fraction := dn_of X G c 30 rfl rfl fun _ _ _ _ _ _ us hl => match us, hl with | [_, _, _], _ => rfl
  law_has := dn_of X G c 31 rfl rfl fun _ _ _ _ _ _ us hl => match us, hl with | [_, _, _, _], _ => rfl
  law_number := dn_of X G c 32 rfl rfl fun _ _ _ _ _ _ us hl => match us, hl with | [_, _], _ => rfl
  law_sum := dn_of X G c 33 rfl rfl fun _ _ _ _ _ _ us hl => match us, hl with | [_, _, _, _], _ => rfl
  law_product := dn_of X G c 34 rfl rfl fun _ _ _ _ _ _ us hl => match us, hl with | [_, _, _], _ => rfl
  law_quotient := dn_of X G c 35 rfl rfl fun _ _ _ _ _ _ us hl => match us, hl with | [_, _, _], _ => rfl
  law := dn_of X G c 36 rfl rfl fun _ _ _ _ _ _ us hl => match us, hl with | [_], _ => rfl
-- raised(p, many) calls [] own []
def N_raised : List Str := ["p", "many", "told", "_"]
theorem sc_raised : FnScope N_raised ["p", "many"] (defScope d_raised) := ⟨rfl, rfl, rfl, by decide +kernel, rfl, by decide +kernel, by decide +kernel⟩
def g_raised : List Str := []
def s_raised : S := (.seq (.set 2 (.int 1))
 (.seq (.for_ (.var 3) (.rng1 (.var 1))
 (.seq (.set 2 (.bin .mul (.var 2) (.var 0)))
 .nil))
 (.seq (.ret (.var 2))
 .nil)))
theorem m_raised (gs : List Spc) : mtS ⟨g_raised, gs, cns, false, false⟩ N_raised s_raised (defScope d_raised) (defBody d_raised) = true := by kernel_rfl
-- divided_out(p, a) calls [] own []
def N_divided_out : List Str := ["p", "a", "told"]
theorem sc_divided_out : FnScope N_divided_out ["p", "a"] (defScope d_divided_out) := ⟨rfl, rfl, rfl, by decide +kernel, rfl, by decide +kernel, by decide +kernel⟩
def g_divided_out : List Str := []
def s_divided_out : S := (.seq (.set 2 (.int 0))
 (.seq (.whl (.cmpT .eq (.bin .mod (.var 1) (.var 0)) (.int 0))
 (.seq (.set 1 (.bin .fdiv (.var 1) (.var 0)))
 (.seq (.set 2 (.bin .add (.var 2) (.int 1)))
 .nil)))
 (.seq (.ret (.tup (.cons (.var 2) (.cons (.var 1) .nil))))
 .nil)))
theorem m_divided_out (gs : List Spc) : mtS ⟨g_divided_out, gs, cns, false, false⟩ N_divided_out s_divided_out (defScope d_divided_out) (defBody d_divided_out) = true := by kernel_rfl
-- height(p, a, b) calls ['divided_out'] own []
def N_height : List Str := ["p", "a", "b"]
theorem sc_height : FnScope N_height ["p", "a", "b"] (defScope d_height) := ⟨rfl, rfl, rfl, by decide +kernel, rfl, by decide +kernel, by decide +kernel⟩
def g_height : List Str := ["divided_out"]
def s_height : S := (.seq (.ite (.cmpT .eq (.var 1) (.int 0))
 (.seq (.ret .non)
 .nil)
 .nil)
 (.seq (.ret (.bin .sub (.ix (.call 0 (.cons (.var 0) (.cons (.var 1) .nil))) (.int 0)) (.ix (.call 0 (.cons (.var 0) (.cons (.var 2) .nil))) (.int 0))))
 .nil))
theorem m_height (gs : List Spc) : mtS ⟨g_height, gs, cns, false, false⟩ N_height s_height (defScope d_height) (defBody d_height) = true := by kernel_rfl
-- back_of(a, n) calls [] own []
def N_back_of : List Str := ["a", "n", "before", "last", "many"]
theorem sc_back_of : FnScope N_back_of ["a", "n"] (defScope d_back_of) := ⟨rfl, rfl, rfl, by decide +kernel, rfl, by decide +kernel, by decide +kernel⟩
def g_back_of : List Str := []
def s_back_of : S := (.seq (.par2 2 3 false false (.tup (.cons (.var 1) (.cons (.int 0) .nil))) (.tup (.cons (.bin .mod (.var 0) (.var 1)) (.cons (.int 1) .nil))))
 (.seq (.whl (.cmpT .gt (.ix (.var 3) (.int 0)) (.int 1))
 (.seq (.set 4 (.bin .fdiv (.ix (.var 2) (.int 0)) (.ix (.var 3) (.int 0))))
 (.seq (.par2 2 3 false false (.var 3) (.tup (.cons (.bin .sub (.ix (.var 2) (.int 0)) (.bin .mul (.var 4) (.ix (.var 3) (.int 0)))) (.cons (.bin .sub (.ix (.var 2) (.int 1)) (.bin .mul (.var 4) (.ix (.var 3) (.int 1)))) .nil))))
 .nil)))
 (.seq (.ret (.bin .mod (.ix (.var 3) (.int 1)) (.var 1)))
 .nil)))
theorem m_back_of (gs : List Spc) : mtS ⟨g_back_of, gs, cns, false, false⟩ N_back_of s_back_of (defScope d_back_of) (defBody d_back_of) = true := by kernel_rfl
-- is_number(p, number) calls ['raised'] own []
def N_is_number : List Str := ["p", "number", "unit", "shift", "depth"]
theorem sc_is_number : FnScope N_is_number ["p", "number"] (defScope d_is_number) := ⟨rfl, rfl, rfl, by decide +kernel, rfl, by decide +kernel, by decide +kernel⟩
def g_is_number : List Str := ["raised"]
def s_is_number : S := (.seq (.asg (.tup (.cons (.var 2) (.cons (.var 3) (.cons (.var 4) .nil)))) (.var 1))
 (.seq (.ite (.orT (.notT (.chainT .le .le (.neg (.glob "MOST_SHIFT" 400)) (.var 3) (.glob "MOST_SHIFT" 400))) (.notT (.chainT .le .le (.int 0) (.var 4) (.glob "MOST_DEPTH" 200))))
 (.seq (.ret (.bl false))
 .nil)
 .nil)
 (.seq (.ite (.cmpT .eq (.var 4) (.int 0))
 (.seq (.ret (.cmp .eq (.var 2) (.int 0)))
 .nil)
 .nil)
 (.seq (.ret (.andV (.chain .le .lt (.int 1) (.var 2) (.call 0 (.cons (.var 0) (.cons (.var 4) .nil)))) (.cmp .ne (.bin .mod (.var 2) (.var 0)) (.int 0))))
 .nil))))
theorem m_is_number (gs : List Spc) : mtS ⟨g_is_number, gs, cns, false, false⟩ N_is_number s_is_number (defScope d_is_number) (defBody d_is_number) = true := by kernel_rfl
-- end_of(number) calls [] own []
def N_end_of : List Str := ["number"]
theorem sc_end_of : FnScope N_end_of ["number"] (defScope d_end_of) := ⟨rfl, rfl, rfl, by decide +kernel, rfl, by decide +kernel, by decide +kernel⟩
def g_end_of : List Str := []
def s_end_of : S := (.seq (.ret (.bin .add (.ix (.var 0) (.int 1)) (.ix (.var 0) (.int 2))))
 .nil)
theorem m_end_of (gs : List Spc) : mtS ⟨g_end_of, gs, cns, false, false⟩ N_end_of s_end_of (defScope d_end_of) (defBody d_end_of) = true := by kernel_rfl
-- settled(p, whole, shift, end) calls ['divided_out', 'raised'] own []
def N_settled : List Str := ["p", "whole", "shift", "end", "rest", "more", "unit"]
theorem sc_settled : FnScope N_settled ["p", "whole", "shift", "end"] (defScope d_settled) := ⟨rfl, rfl, rfl, by decide +kernel, rfl, by decide +kernel, by decide +kernel⟩
def g_settled : List Str := ["divided_out", "raised"]
def s_settled : S := (.seq (.ite (.cmpT .le (.var 3) (.var 2))
 (.seq (.ret (.tup (.cons (.int 0) (.cons (.var 3) (.cons (.int 0) .nil)))))
 .nil)
 .nil)
 (.seq (.set 4 (.bin .mod (.var 1) (.call 1 (.cons (.var 0) (.cons (.bin .sub (.var 3) (.var 2)) .nil)))))
 (.seq (.ite (.cmpT .eq (.var 4) (.int 0))
 (.seq (.ret (.tup (.cons (.int 0) (.cons (.var 3) (.cons (.int 0) .nil)))))
 .nil)
 .nil)
 (.seq (.asg (.tup (.cons (.var 5) (.cons (.var 6) .nil))) (.call 0 (.cons (.var 0) (.cons (.var 4) .nil))))
 (.seq (.ret (.tup (.cons (.var 6) (.cons (.bin .add (.var 2) (.var 5)) (.cons (.bin .sub (.bin .sub (.var 3) (.var 2)) (.var 5)) .nil)))))
 .nil)))))
theorem m_settled (gs : List Spc) : mtS ⟨g_settled, gs, cns, false, false⟩ N_settled s_settled (defScope d_settled) (defBody d_settled) = true := by kernel_rfl
-- made(p, a, b, end) calls ['divided_out', 'raised', 'settled', 'back_of'] own []
def N_made : List Str := ["p", "a", "b", "end", "up", "top", "down", "low", "shift", "size"]
theorem sc_made : FnScope N_made ["p", "a", "b", "end"] (defScope d_made) := ⟨rfl, rfl, rfl, by decide +kernel, rfl, by decide +kernel, by decide +kernel⟩
def g_made : List Str := ["divided_out", "raised", "settled", "back_of"]
def s_made : S := (.seq (.ite (.cmpT .eq (.var 1) (.int 0))
 (.seq (.ret (.tup (.cons (.int 0) (.cons (.var 3) (.cons (.int 0) .nil)))))
 .nil)
 .nil)
 (.seq (.asg (.tup (.cons (.var 4) (.cons (.var 5) .nil))) (.call 0 (.cons (.var 0) (.cons (.var 1) .nil))))
 (.seq (.asg (.tup (.cons (.var 6) (.cons (.var 7) .nil))) (.call 0 (.cons (.var 0) (.cons (.var 2) .nil))))
 (.seq (.set 8 (.bin .sub (.var 4) (.var 6)))
 (.seq (.ite (.cmpT .ge (.var 8) (.var 3))
 (.seq (.ret (.tup (.cons (.int 0) (.cons (.var 3) (.cons (.int 0) .nil)))))
 .nil)
 .nil)
 (.seq (.set 9 (.call 1 (.cons (.var 0) (.cons (.bin .sub (.var 3) (.var 8)) .nil))))
 (.seq (.ret (.call 2 (.cons (.var 0) (.cons (.bin .mul (.var 5) (.call 3 (.cons (.var 7) (.cons (.var 9) .nil)))) (.cons (.var 8) (.cons (.var 3) .nil))))))
 .nil)))))))
theorem m_made (gs : List Spc) : mtS ⟨g_made, gs, cns, false, false⟩ N_made s_made (defScope d_made) (defBody d_made) = true := by kernel_rfl
-- minus_fraction(a, b, c, e) calls [] own []
def N_minus_fraction : List Str := ["a", "b", "c", "e"]
theorem sc_minus_fraction : FnScope N_minus_fraction ["a", "b", "c", "e"] (defScope d_minus_fraction) := ⟨rfl, rfl, rfl, by decide +kernel, rfl, by decide +kernel, by decide +kernel⟩
def g_minus_fraction : List Str := []
def s_minus_fraction : S := (.seq (.ret (.tup (.cons (.bin .sub (.bin .mul (.var 0) (.var 3)) (.bin .mul (.var 2) (.var 1))) (.cons (.bin .mul (.var 1) (.var 3)) .nil))))
 .nil)
theorem m_minus_fraction (gs : List Spc) : mtS ⟨g_minus_fraction, gs, cns, false, false⟩ N_minus_fraction s_minus_fraction (defScope d_minus_fraction) (defBody d_minus_fraction) = true := by kernel_rfl
-- value_of(p, number) calls ['raised'] own []
def N_value_of : List Str := ["p", "number", "unit", "shift", "_"]
theorem sc_value_of : FnScope N_value_of ["p", "number"] (defScope d_value_of) := ⟨rfl, rfl, rfl, by decide +kernel, rfl, by decide +kernel, by decide +kernel⟩
def g_value_of : List Str := ["raised"]
def s_value_of : S := (.seq (.asg (.tup (.cons (.var 2) (.cons (.var 3) (.cons (.var 4) .nil)))) (.var 1))
 (.seq (.ret (.ite (.cmpT .ge (.var 3) (.int 0)) (.tup (.cons (.bin .mul (.var 2) (.call 0 (.cons (.var 0) (.cons (.var 3) .nil)))) (.cons (.int 1) .nil))) (.tup (.cons (.var 2) (.cons (.call 0 (.cons (.var 0) (.cons (.neg (.var 3)) .nil))) .nil)))))
 .nil))
theorem m_value_of (gs : List Spc) : mtS ⟨g_value_of, gs, cns, false, false⟩ N_value_of s_value_of (defScope d_value_of) (defBody d_value_of) = true := by kernel_rfl
-- has(p, number, a, b) calls ['value_of', 'minus_fraction', 'height', 'end_of'] own []
def N_has : List Str := ["p", "number", "a", "b", "c", "e", "top", "low", "found"]
theorem sc_has : FnScope N_has ["p", "number", "a", "b"] (defScope d_has) := ⟨rfl, rfl, rfl, by decide +kernel, rfl, by decide +kernel, by decide +kernel⟩
def g_has : List Str := ["value_of", "minus_fraction", "height", "end_of"]
def s_has : S := (.seq (.asg (.tup (.cons (.var 4) (.cons (.var 5) .nil))) (.call 0 (.cons (.var 0) (.cons (.var 1) .nil))))
 (.seq (.asg (.tup (.cons (.var 6) (.cons (.var 7) .nil))) (.call 1 (.cons (.var 2) (.cons (.var 3) (.cons (.var 4) (.cons (.var 5) .nil))))))
 (.seq (.set 8 (.call 2 (.cons (.var 0) (.cons (.var 6) (.cons (.var 7) .nil)))))
 (.seq (.ret (.orV (.cmp .is (.var 8) .non) (.cmp .ge (.var 8) (.call 3 (.cons (.var 1) .nil)))))
 .nil))))
theorem m_has (gs : List Spc) : mtS ⟨g_has, gs, cns, false, false⟩ N_has s_has (defScope d_has) (defBody d_has) = true := by kernel_rfl
-- plus(p, one, other) calls ['settled', 'raised', 'end_of'] own []
def N_plus : List Str := ["p", "one", "other", "shift", "whole"]
theorem sc_plus : FnScope N_plus ["p", "one", "other"] (defScope d_plus) := ⟨rfl, rfl, rfl, by decide +kernel, rfl, by decide +kernel, by decide +kernel⟩
def g_plus : List Str := ["settled", "raised", "end_of"]
def s_plus : S := (.seq (.set 3 (.bi .min (.cons (.ix (.var 1) (.int 1)) (.cons (.ix (.var 2) (.int 1)) .nil))))
 (.seq (.set 4 (.bin .add (.bin .mul (.ix (.var 1) (.int 0)) (.call 1 (.cons (.var 0) (.cons (.bin .sub (.ix (.var 1) (.int 1)) (.var 3)) .nil)))) (.bin .mul (.ix (.var 2) (.int 0)) (.call 1 (.cons (.var 0) (.cons (.bin .sub (.ix (.var 2) (.int 1)) (.var 3)) .nil))))))
 (.seq (.ret (.call 0 (.cons (.var 0) (.cons (.var 4) (.cons (.var 3) (.cons (.bi .min (.cons (.call 2 (.cons (.var 1) .nil)) (.cons (.call 2 (.cons (.var 2) .nil)) .nil))) .nil))))))
 .nil)))
theorem m_plus (gs : List Spc) : mtS ⟨g_plus, gs, cns, false, false⟩ N_plus s_plus (defScope d_plus) (defBody d_plus) = true := by kernel_rfl
-- negative(p, number) calls ['settled', 'end_of'] own []
def N_negative : List Str := ["p", "number"]
theorem sc_negative : FnScope N_negative ["p", "number"] (defScope d_negative) := ⟨rfl, rfl, rfl, by decide +kernel, rfl, by decide +kernel, by decide +kernel⟩
def g_negative : List Str := ["settled", "end_of"]
def s_negative : S := (.seq (.ret (.call 0 (.cons (.var 0) (.cons (.neg (.ix (.var 1) (.int 0))) (.cons (.ix (.var 1) (.int 1)) (.cons (.call 1 (.cons (.var 1) .nil)) .nil))))))
 .nil)
theorem m_negative (gs : List Spc) : mtS ⟨g_negative, gs, cns, false, false⟩ N_negative s_negative (defScope d_negative) (defBody d_negative) = true := by kernel_rfl
-- minus(p, one, other) calls ['plus', 'negative'] own []
def N_minus : List Str := ["p", "one", "other"]
theorem sc_minus : FnScope N_minus ["p", "one", "other"] (defScope d_minus) := ⟨rfl, rfl, rfl, by decide +kernel, rfl, by decide +kernel, by decide +kernel⟩
def g_minus : List Str := ["plus", "negative"]
def s_minus : S := (.seq (.ret (.call 0 (.cons (.var 0) (.cons (.var 1) (.cons (.call 1 (.cons (.var 0) (.cons (.var 2) .nil))) .nil)))))
 .nil)
theorem m_minus (gs : List Spc) : mtS ⟨g_minus, gs, cns, false, false⟩ N_minus s_minus (defScope d_minus) (defBody d_minus) = true := by kernel_rfl
-- times(p, one, other) calls ['raised'] own []
def N_times : List Str := ["p", "one", "other", "shift", "depth"]
theorem sc_times : FnScope N_times ["p", "one", "other"] (defScope d_times) := ⟨rfl, rfl, rfl, by decide +kernel, rfl, by decide +kernel, by decide +kernel⟩
def g_times : List Str := ["raised"]
def s_times : S := (.seq (.set 3 (.bin .add (.ix (.var 1) (.int 1)) (.ix (.var 2) (.int 1))))
 (.seq (.set 4 (.bi .min (.cons (.ix (.var 1) (.int 2)) (.cons (.ix (.var 2) (.int 2)) .nil))))
 (.seq (.ret (.ite (.cmpT .gt (.var 4) (.int 0)) (.tup (.cons (.bin .mod (.bin .mul (.ix (.var 1) (.int 0)) (.ix (.var 2) (.int 0))) (.call 0 (.cons (.var 0) (.cons (.var 4) .nil)))) (.cons (.var 3) (.cons (.var 4) .nil)))) (.tup (.cons (.int 0) (.cons (.var 3) (.cons (.int 0) .nil))))))
 .nil)))
theorem m_times (gs : List Spc) : mtS ⟨g_times, gs, cns, false, false⟩ N_times s_times (defScope d_times) (defBody d_times) = true := by kernel_rfl
-- over(p, one, other) calls ['times', 'back_of', 'raised'] own []
def N_over : List Str := ["p", "one", "other", "unit", "shift", "depth"]
theorem sc_over : FnScope N_over ["p", "one", "other"] (defScope d_over) := ⟨rfl, rfl, rfl, by decide +kernel, rfl, by decide +kernel, by decide +kernel⟩
def g_over : List Str := ["times", "back_of", "raised"]
def s_over : S := (.seq (.asg (.tup (.cons (.var 3) (.cons (.var 4) (.cons (.var 5) .nil)))) (.var 2))
 (.seq (.ite (.cmpT .eq (.var 5) (.int 0))
 (.seq .never
 .nil)
 .nil)
 (.seq (.ret (.call 0 (.cons (.var 0) (.cons (.var 1) (.cons (.tup (.cons (.call 1 (.cons (.var 3) (.cons (.call 2 (.cons (.var 0) (.cons (.var 5) .nil))) .nil))) (.cons (.neg (.var 4)) (.cons (.var 5) .nil)))) .nil)))))
 .nil)))
theorem m_over (gs : List Spc) : mtS ⟨g_over, gs, cns, false, false⟩ N_over s_over (defScope d_over) (defBody d_over) = true := by kernel_rfl
-- agree(p, one, other) calls ['minus'] own []
def N_agree : List Str := ["p", "one", "other"]
theorem sc_agree : FnScope N_agree ["p", "one", "other"] (defScope d_agree) := ⟨rfl, rfl, rfl, by decide +kernel, rfl, by decide +kernel, by decide +kernel⟩
def g_agree : List Str := ["minus"]
def s_agree : S := (.seq (.ret (.cmp .eq (.ix (.call 0 (.cons (.var 0) (.cons (.var 1) (.cons (.var 2) .nil)))) (.int 2)) (.int 0)))
 .nil)
theorem m_agree (gs : List Spc) : mtS ⟨g_agree, gs, cns, false, false⟩ N_agree s_agree (defScope d_agree) (defBody d_agree) = true := by kernel_rfl
-- cut(p, number, end) calls ['settled'] own []
def N_cut : List Str := ["p", "number", "end"]
theorem sc_cut : FnScope N_cut ["p", "number", "end"] (defScope d_cut) := ⟨rfl, rfl, rfl, by decide +kernel, rfl, by decide +kernel, by decide +kernel⟩
def g_cut : List Str := ["settled"]
def s_cut : S := (.seq (.ret (.call 0 (.cons (.var 0) (.cons (.ix (.var 1) (.int 0)) (.cons (.ix (.var 1) (.int 1)) (.cons (.var 2) .nil))))))
 .nil)
theorem m_cut (gs : List Spc) : mtS ⟨g_cut, gs, cns, false, false⟩ N_cut s_cut (defScope d_cut) (defBody d_cut) = true := by kernel_rfl
-- power(p, number, many) calls ['times'] own []
def N_power : List Str := ["p", "number", "many", "told", "_"]
theorem sc_power : FnScope N_power ["p", "number", "many"] (defScope d_power) := ⟨rfl, rfl, rfl, by decide +kernel, rfl, by decide +kernel, by decide +kernel⟩
def g_power : List Str := ["times"]
def s_power : S := (.seq (.set 3 (.var 1))
 (.seq (.for_ (.var 4) (.rng1 (.bin .sub (.var 2) (.int 1)))
 (.seq (.set 3 (.call 0 (.cons (.var 0) (.cons (.var 3) (.cons (.var 1) .nil)))))
 .nil))
 (.seq (.ret (.var 3))
 .nil)))
theorem m_power (gs : List Spc) : mtS ⟨g_power, gs, cns, false, false⟩ N_power s_power (defScope d_power) (defBody d_power) = true := by kernel_rfl
-- _law_state(script) calls [] own []
def N_law_state : List Str := ["script", "seed", "cell"]
theorem sc_law_state : FnScope N_law_state ["script"] (defScope d_law_state) := ⟨rfl, rfl, rfl, by decide +kernel, rfl, by decide +kernel, by decide +kernel⟩
-- UNSUPPORTED _law_draw: not fresh at cells = state[0]
-- UNSUPPORTED _law_draw: pop at cells.pop(0)
-- _law_draw(state, many) calls [] own ['cells']
def N_law_draw : List Str := ["state", "many", "cells", "value", "mixed"]
theorem sc_law_draw : FnScope N_law_draw ["state", "many"] (defScope d_law_draw) := ⟨rfl, rfl, rfl, by decide +kernel, rfl, by decide +kernel, by decide +kernel⟩
-- _law_pick(state, row) calls ['_law_draw'] own []
def N_law_pick : List Str := ["state", "row"]
theorem sc_law_pick : FnScope N_law_pick ["state", "row"] (defScope d_law_pick) := ⟨rfl, rfl, rfl, by decide +kernel, rfl, by decide +kernel, by decide +kernel⟩
def g_law_pick : List Str := ["_law_draw"]
def s_law_pick : S := (.seq (.ret (.ix (.var 1) (.call 0 (.cons (.var 0) (.cons (.bi .len (.cons (.var 1) .nil)) .nil)))))
 .nil)
theorem m_law_pick (gs : List Spc) : mtS ⟨g_law_pick, gs, cns, false, false⟩ N_law_pick s_law_pick (defScope d_law_pick) (defBody d_law_pick) = true := by kernel_rfl
-- _law_power(p, many) calls [] own []
def N_law_power : List Str := ["p", "many", "told", "turn"]
theorem sc_law_power : FnScope N_law_power ["p", "many"] (defScope d_law_power) := ⟨rfl, rfl, rfl, by decide +kernel, rfl, by decide +kernel, by decide +kernel⟩
def g_law_power : List Str := []
def s_law_power : S := (.seq (.set 2 (.int 1))
 (.seq (.for_ (.var 3) (.rng1 (.var 1))
 (.seq (.set 2 (.bin .mul (.var 2) (.var 0)))
 .nil))
 (.seq (.ret (.var 2))
 .nil)))
theorem m_law_power (gs : List Spc) : mtS ⟨g_law_power, gs, cns, false, false⟩ N_law_power s_law_power (defScope d_law_power) (defBody d_law_power) = true := by kernel_rfl
-- _law_trimmed(row) calls [] own ['told']
def N_law_trimmed : List Str := ["row", "told"]
theorem sc_law_trimmed : FnScope N_law_trimmed ["row"] (defScope d_law_trimmed) := ⟨rfl, rfl, rfl, by decide +kernel, rfl, by decide +kernel, by decide +kernel⟩
def g_law_trimmed : List Str := []
def s_law_trimmed : S := (.seq (.setO 1 (.bi .list (.cons (.var 0) .nil)))
 (.seq (.whl (.andT (.cmpT .ne (.bor 1) (.lst .nil)) (.cmpT .eq (.ix (.bor 1) (.neg (.int 1))) (.int 0)))
 (.seq (.popD 1)
 .nil))
 (.seq (.ret (.bi .tuple (.cons (.bor 1) .nil)))
 .nil)))
theorem m_law_trimmed (gs : List Spc) : mtS ⟨g_law_trimmed, gs, cns, false, false⟩ N_law_trimmed s_law_trimmed (defScope d_law_trimmed) (defBody d_law_trimmed) = true := by kernel_rfl
-- _law_common(row) calls [] own []
def N_law_common : List Str := ["row", "told", "one"]
theorem sc_law_common : FnScope N_law_common ["row"] (defScope d_law_common) := ⟨rfl, rfl, rfl, by decide +kernel, rfl, by decide +kernel, by decide +kernel⟩
def g_law_common : List Str := []
def s_law_common : S := (.seq (.set 1 (.int 0))
 (.seq (.for_ (.var 2) (.seq (.var 0))
 (.seq (.set 2 (.bi .abs (.cons (.var 2) .nil)))
 (.seq (.whl (.cmpT .gt (.var 2) (.int 0))
 (.seq (.par2 1 2 false false (.var 2) (.bin .mod (.var 1) (.var 2)))
 .nil))
 .nil)))
 (.seq (.ret (.var 1))
 .nil)))
theorem m_law_common (gs : List Spc) : mtS ⟨g_law_common, gs, cns, false, false⟩ N_law_common s_law_common (defScope d_law_common) (defBody d_law_common) = true := by kernel_rfl
-- _law_bare(row) calls ['_law_common'] own []
def N_law_bare : List Str := ["row", "part", "one"]
theorem sc_law_bare : FnScope N_law_bare ["row"] (defScope d_law_bare) := ⟨rfl, rfl, rfl, by decide +kernel, rfl, by decide +kernel, by decide +kernel⟩
def g_law_bare : List Str := ["_law_common"]
def s_law_bare : S := (.seq (.set 1 (.call 0 (.cons (.var 0) .nil)))
 (.seq (.ret (.ite (.cmpT .ne (.var 0) (.tup .nil)) (.bi .tuple (.cons (.lc [2] (.var 2) (.seq (.var 0)) .nil (.bin .mul (.bin .fdiv (.var 2) (.var 1)) (.ite (.cmpT .gt (.ix (.var 0) (.neg (.int 1))) (.int 0)) (.int 1) (.neg (.int 1))))) .nil)) (.tup .nil)))
 .nil))
theorem m_law_bare (gs : List Spc) : mtS ⟨g_law_bare, gs, cns, false, false⟩ N_law_bare s_law_bare (defScope d_law_bare) (defBody d_law_bare) = true := by kernel_rfl
-- _law_high(p, number) calls [] own []
def N_law_high : List Str := ["p", "number", "many"]
theorem sc_law_high : FnScope N_law_high ["p", "number"] (defScope d_law_high) := ⟨rfl, rfl, rfl, by decide +kernel, rfl, by decide +kernel, by decide +kernel⟩
def g_law_high : List Str := []
def s_law_high : S := (.seq (.set 2 (.int 0))
 (.seq (.whl (.cmpT .eq (.bin .mod (.var 1) (.var 0)) (.int 0))
 (.seq (.par2 1 2 false false (.bin .fdiv (.var 1) (.var 0)) (.bin .add (.var 2) (.int 1)))
 .nil))
 (.seq (.ret (.var 2))
 .nil)))
theorem m_law_high (gs : List Spc) : mtS ⟨g_law_high, gs, cns, false, false⟩ N_law_high s_law_high (defScope d_law_high) (defBody d_law_high) = true := by kernel_rfl
-- _law_made(p, a, b, end) calls ['_law_power', '_law_high', '_law_back'] own []
def N_law_made : List Str := ["p", "a", "b", "end", "shift", "m", "u", "v"]
theorem sc_law_made : FnScope N_law_made ["p", "a", "b", "end"] (defScope d_law_made) := ⟨rfl, rfl, rfl, by decide +kernel, rfl, by decide +kernel, by decide +kernel⟩
def g_law_made : List Str := ["_law_power", "_law_high", "_law_back"]
def s_law_made : S := (.seq (.ite (.orT (.cmpT .eq (.var 1) (.int 0)) (.cmpT .ge (.bin .sub (.call 1 (.cons (.var 0) (.cons (.var 1) .nil))) (.call 1 (.cons (.var 0) (.cons (.var 2) .nil)))) (.var 3)))
 (.seq (.ret (.tup (.cons (.int 0) (.cons (.var 3) (.cons (.int 0) .nil)))))
 .nil)
 .nil)
 (.seq (.set 4 (.bin .sub (.call 1 (.cons (.var 0) (.cons (.var 1) .nil))) (.call 1 (.cons (.var 0) (.cons (.var 2) .nil)))))
 (.seq (.set 5 (.call 0 (.cons (.var 0) (.cons (.bin .sub (.var 3) (.var 4)) .nil))))
 (.seq (.par2 6 7 false false (.bin .fdiv (.var 1) (.call 0 (.cons (.var 0) (.cons (.call 1 (.cons (.var 0) (.cons (.var 1) .nil))) .nil)))) (.bin .fdiv (.var 2) (.call 0 (.cons (.var 0) (.cons (.call 1 (.cons (.var 0) (.cons (.var 2) .nil))) .nil)))))
 (.seq (.ret (.tup (.cons (.bin .mod (.bin .mul (.var 6) (.call 2 (.cons (.var 7) (.cons (.var 5) .nil)))) (.var 5)) (.cons (.var 4) (.cons (.bin .sub (.var 3) (.var 4)) .nil)))))
 .nil)))))
theorem m_law_made (gs : List Spc) : mtS ⟨g_law_made, gs, cns, false, false⟩ N_law_made s_law_made (defScope d_law_made) (defBody d_law_made) = true := by kernel_rfl
-- _law_back(one, m) calls [] own []
def N_law_back : List Str := ["one", "m", "a", "b", "x", "y"]
theorem sc_law_back : FnScope N_law_back ["one", "m"] (defScope d_law_back) := ⟨rfl, rfl, rfl, by decide +kernel, rfl, by decide +kernel, by decide +kernel⟩
def g_law_back : List Str := []
def s_law_back : S := (.seq (.asg (.tup (.cons (.var 2) (.cons (.var 3) (.cons (.var 4) (.cons (.var 5) .nil))))) (.tup (.cons (.var 1) (.cons (.bin .mod (.var 0) (.var 1)) (.cons (.int 0) (.cons (.int 1) .nil))))))
 (.seq (.whl (.cmpT .gt (.var 3) (.int 0))
 (.seq (.asg (.tup (.cons (.var 2) (.cons (.var 3) (.cons (.var 4) (.cons (.var 5) .nil))))) (.tup (.cons (.var 3) (.cons (.bin .mod (.var 2) (.var 3)) (.cons (.var 5) (.cons (.bin .sub (.var 4) (.bin .mul (.bin .fdiv (.var 2) (.var 3)) (.var 5))) .nil))))))
 .nil))
 (.seq (.ret (.bin .mod (.var 4) (.var 1)))
 .nil)))
theorem m_law_back (gs : List Spc) : mtS ⟨g_law_back, gs, cns, false, false⟩ N_law_back s_law_back (defScope d_law_back) (defBody d_law_back) = true := by kernel_rfl
-- _law_end(number) calls [] own []
def N_law_end : List Str := ["number"]
theorem sc_law_end : FnScope N_law_end ["number"] (defScope d_law_end) := ⟨rfl, rfl, rfl, by decide +kernel, rfl, by decide +kernel, by decide +kernel⟩
def g_law_end : List Str := []
def s_law_end : S := (.seq (.ret (.bin .add (.ix (.var 0) (.int 1)) (.ix (.var 0) (.int 2))))
 .nil)
theorem m_law_end (gs : List Spc) : mtS ⟨g_law_end, gs, cns, false, false⟩ N_law_end s_law_end (defScope d_law_end) (defBody d_law_end) = true := by kernel_rfl
-- _law_fraction(p, number, more) calls ['_law_end', '_law_power'] own []
def N_law_fraction : List Str := ["p", "number", "more", "a", "b", "end", "c", "d"]
theorem sc_law_fraction : FnScope N_law_fraction ["p", "number", "more"] (defScope d_law_fraction) := ⟨rfl, rfl, rfl, by decide +kernel, rfl, by decide +kernel, by decide +kernel⟩
def g_law_fraction : List Str := ["_law_end", "_law_power"]
def s_law_fraction : S := (.seq (.par2 3 4 false false (.bin .mul (.ix (.var 1) (.int 0)) (.call 1 (.cons (.var 0) (.cons (.bi .max (.cons (.int 0) (.cons (.ix (.var 1) (.int 1)) .nil))) .nil)))) (.call 1 (.cons (.var 0) (.cons (.bi .max (.cons (.int 0) (.cons (.bin .sub (.int 0) (.ix (.var 1) (.int 1))) .nil))) .nil))))
 (.seq (.set 5 (.call 0 (.cons (.var 1) .nil)))
 (.seq (.par2 6 7 false false (.bin .mul (.var 2) (.call 1 (.cons (.var 0) (.cons (.bi .max (.cons (.int 0) (.cons (.var 5) .nil))) .nil)))) (.call 1 (.cons (.var 0) (.cons (.bi .max (.cons (.int 0) (.cons (.bin .sub (.int 0) (.var 5)) .nil))) .nil))))
 (.seq (.ret (.tup (.cons (.bin .add (.bin .mul (.var 3) (.var 7)) (.bin .mul (.var 6) (.var 4))) (.cons (.bin .mul (.var 4) (.var 7)) .nil))))
 .nil))))
theorem m_law_fraction (gs : List Spc) : mtS ⟨g_law_fraction, gs, cns, false, false⟩ N_law_fraction s_law_fraction (defScope d_law_fraction) (defBody d_law_fraction) = true := by kernel_rfl
-- _law_has(p, number, a, b) calls ['_law_fraction', '_law_end', '_law_high'] own []
def N_law_has : List Str := ["p", "number", "a", "b", "c", "d", "rest"]
theorem sc_law_has : FnScope N_law_has ["p", "number", "a", "b"] (defScope d_law_has) := ⟨rfl, rfl, rfl, by decide +kernel, rfl, by decide +kernel, by decide +kernel⟩
def g_law_has : List Str := ["_law_fraction", "_law_end", "_law_high"]
def s_law_has : S := (.seq (.asg (.tup (.cons (.var 4) (.cons (.var 5) .nil))) (.call 0 (.cons (.var 0) (.cons (.var 1) (.cons (.int 0) .nil)))))
 (.seq (.set 6 (.bin .sub (.bin .mul (.var 2) (.var 5)) (.bin .mul (.var 4) (.var 3))))
 (.seq (.ret (.orV (.cmp .eq (.var 6) (.int 0)) (.cmp .ge (.bin .sub (.call 2 (.cons (.var 0) (.cons (.var 6) .nil))) (.call 2 (.cons (.var 0) (.cons (.bin .mul (.var 3) (.var 5)) .nil)))) (.call 1 (.cons (.var 1) .nil)))))
 .nil)))
theorem m_law_has (gs : List Spc) : mtS ⟨g_law_has, gs, cns, false, false⟩ N_law_has s_law_has (defScope d_law_has) (defBody d_law_has) = true := by kernel_rfl
-- _law_number(state, p) calls ['_law_pick', '_law_draw', '_law_power'] own []
def N_law_number : List Str := ["state", "p", "depth", "shift", "unit"]
theorem sc_law_number : FnScope N_law_number ["state", "p"] (defScope d_law_number) := ⟨rfl, rfl, rfl, by decide +kernel, rfl, by decide +kernel, by decide +kernel⟩
def g_law_number : List Str := ["_law_pick", "_law_draw", "_law_power"]
def s_law_number : S := (.seq (.par2 2 3 false false (.bin .add (.int 1) (.call 1 (.cons (.var 0) (.cons (.call 0 (.cons (.var 0) (.cons (.lst (.cons (.int 2) (.cons (.int 12) (.cons (.int 60) .nil)))) .nil))) .nil)))) (.call 0 (.cons (.var 0) (.cons (.lst (.cons (.int 0) (.cons (.bin .sub (.call 1 (.cons (.var 0) (.cons (.int 9) .nil))) (.int 4)) (.cons (.bin .sub (.call 1 (.cons (.var 0) (.cons (.int 201) .nil))) (.int 100)) .nil)))) .nil))))
 (.seq (.ite (.cmpT .eq (.call 1 (.cons (.var 0) (.cons (.int 6) .nil))) (.int 0))
 (.seq (.ret (.tup (.cons (.int 0) (.cons (.var 3) (.cons (.int 0) .nil)))))
 .nil)
 .nil)
 (.seq (.set 4 (.bin .add (.int 1) (.call 1 (.cons (.var 0) (.cons (.bin .sub (.call 2 (.cons (.var 1) (.cons (.var 2) .nil))) (.int 1)) .nil)))))
 (.seq (.set 4 (.ite (.cmpT .ne (.bin .mod (.var 4) (.var 1)) (.int 0)) (.var 4) (.bin .sub (.bin .add (.var 4) (.int 1)) (.bin .mul (.var 1) (.bi .int (.cons (.cmp .ge (.bin .add (.var 4) (.int 1)) (.call 2 (.cons (.var 1) (.cons (.var 2) .nil)))) .nil))))))
 (.seq (.ret (.tup (.cons (.var 4) (.cons (.var 3) (.cons (.var 2) .nil)))))
 .nil)))))
theorem m_law_number (gs : List Spc) : mtS ⟨g_law_number, gs, cns, false, false⟩ N_law_number s_law_number (defScope d_law_number) (defBody d_law_number) = true := by kernel_rfl
-- _law_sum(p, one, other, sign) calls ['_law_made', '_law_end', '_law_fraction'] own []
def N_law_sum : List Str := ["p", "one", "other", "sign", "end", "a", "b", "c", "d"]
theorem sc_law_sum : FnScope N_law_sum ["p", "one", "other", "sign"] (defScope d_law_sum) := ⟨rfl, rfl, rfl, by decide +kernel, rfl, by decide +kernel, by decide +kernel⟩
def g_law_sum : List Str := ["_law_made", "_law_end", "_law_fraction"]
def s_law_sum : S := (.seq (.set 4 (.bi .min (.cons (.call 1 (.cons (.var 1) .nil)) (.cons (.call 1 (.cons (.var 2) .nil)) .nil))))
 (.seq (.asg (.tup (.cons (.tup (.cons (.var 5) (.cons (.var 6) .nil))) (.cons (.tup (.cons (.var 7) (.cons (.var 8) .nil))) .nil))) (.tup (.cons (.call 2 (.cons (.var 0) (.cons (.var 1) (.cons (.int 0) .nil)))) (.cons (.call 2 (.cons (.var 0) (.cons (.var 2) (.cons (.int 0) .nil)))) .nil))))
 (.seq (.ret (.call 0 (.cons (.var 0) (.cons (.bin .add (.bin .mul (.var 5) (.var 8)) (.bin .mul (.bin .mul (.var 3) (.var 7)) (.var 6))) (.cons (.bin .mul (.var 6) (.var 8)) (.cons (.var 4) .nil))))))
 .nil)))
theorem m_law_sum (gs : List Spc) : mtS ⟨g_law_sum, gs, cns, false, false⟩ N_law_sum s_law_sum (defScope d_law_sum) (defBody d_law_sum) = true := by kernel_rfl
-- _law_product(p, one, other) calls ['_law_power'] own []
def N_law_product : List Str := ["p", "one", "other", "depth"]
theorem sc_law_product : FnScope N_law_product ["p", "one", "other"] (defScope d_law_product) := ⟨rfl, rfl, rfl, by decide +kernel, rfl, by decide +kernel, by decide +kernel⟩
def g_law_product : List Str := ["_law_power"]
def s_law_product : S := (.seq (.ite (.orT (.cmpT .eq (.ix (.var 1) (.int 2)) (.int 0)) (.cmpT .eq (.ix (.var 2) (.int 2)) (.int 0)))
 (.seq (.ret (.tup (.cons (.int 0) (.cons (.bin .add (.ix (.var 1) (.int 1)) (.ix (.var 2) (.int 1))) (.cons (.int 0) .nil)))))
 .nil)
 .nil)
 (.seq (.set 3 (.bi .min (.cons (.ix (.var 1) (.int 2)) (.cons (.ix (.var 2) (.int 2)) .nil))))
 (.seq (.ret (.tup (.cons (.bin .mod (.bin .mul (.ix (.var 1) (.int 0)) (.ix (.var 2) (.int 0))) (.call 0 (.cons (.var 0) (.cons (.var 3) .nil)))) (.cons (.bin .add (.ix (.var 1) (.int 1)) (.ix (.var 2) (.int 1))) (.cons (.var 3) .nil)))))
 .nil)))
theorem m_law_product (gs : List Spc) : mtS ⟨g_law_product, gs, cns, false, false⟩ N_law_product s_law_product (defScope d_law_product) (defBody d_law_product) = true := by kernel_rfl
-- _law_quotient(p, one, other) calls ['_law_power', '_law_back'] own []
def N_law_quotient : List Str := ["p", "one", "other", "depth"]
theorem sc_law_quotient : FnScope N_law_quotient ["p", "one", "other"] (defScope d_law_quotient) := ⟨rfl, rfl, rfl, by decide +kernel, rfl, by decide +kernel, by decide +kernel⟩
def g_law_quotient : List Str := ["_law_power", "_law_back"]
def s_law_quotient : S := (.seq (.ite (.cmpT .eq (.ix (.var 1) (.int 2)) (.int 0))
 (.seq (.ret (.tup (.cons (.int 0) (.cons (.bin .sub (.ix (.var 1) (.int 1)) (.ix (.var 2) (.int 1))) (.cons (.int 0) .nil)))))
 .nil)
 .nil)
 (.seq (.set 3 (.bi .min (.cons (.ix (.var 1) (.int 2)) (.cons (.ix (.var 2) (.int 2)) .nil))))
 (.seq (.ret (.tup (.cons (.bin .mod (.bin .mul (.ix (.var 1) (.int 0)) (.call 1 (.cons (.ix (.var 2) (.int 0)) (.cons (.call 0 (.cons (.var 0) (.cons (.var 3) .nil))) .nil)))) (.call 0 (.cons (.var 0) (.cons (.var 3) .nil)))) (.cons (.bin .sub (.ix (.var 1) (.int 1)) (.ix (.var 2) (.int 1))) (.cons (.var 3) .nil)))))
 .nil)))
theorem m_law_quotient (gs : List Spc) : mtS ⟨g_law_quotient, gs, cns, false, false⟩ N_law_quotient s_law_quotient (defScope d_law_quotient) (defBody d_law_quotient) = true := by kernel_rfl
-- law(script) calls ['_law_pick', '_law_draw', '_law_fraction', '_law_power', '_law_number', 'agree', '_law_has', '_law_end', 'plus', 'minus', '_law_made', 'end_of', 'is_number', '_law_sum', 'times', '_law_product', 'over', '_law_quotient', 'has', 'cut', 'power', 'made', 'height', '_law_high'] own []
def N_law : List Str := ["script", "state", "turn", "p", "one", "other", "kind", "end", "a", "b", "c", "d", "far", "near", "many", "told", "k", "unit", "shift", "depth", "top", "rows", "row", "fine"]
theorem sc_law : FnScope N_law ["script"] (defScope d_law) := ⟨rfl, rfl, rfl, by decide +kernel, rfl, by decide +kernel, by decide +kernel⟩
def s_law_1 : S := .seq (.set 5 (.ite (.chainT .le .le (.neg (.int 100)) (.var 7) (.int 100)) (.call 10 (.cons (.var 3) (.cons (.bin .add (.var 8) (.bin .mul (.bin .mul (.call 1 (.cons (.var 1) (.cons (.int 2) .nil))) (.var 9)) (.call 3 (.cons (.var 3) (.cons (.bi .max (.cons (.int 0) (.cons (.var 7) .nil))) .nil))))) (.cons (.var 9) (.cons (.var 7) .nil))))) (.var 4))) .nil
def s_law_2 : S := .seq (.asg (.tup (.cons (.var 8) (.cons (.var 9) .nil))) (.call 2 (.cons (.var 3) (.cons (.var 4) (.cons (.int 0) .nil))))) s_law_1
def s_law_3 : S := .seq (.set 7 (.bin .add (.ix (.var 4) (.int 1)) (.call 1 (.cons (.var 1) (.cons (.bin .add (.ix (.var 4) (.int 2)) (.int 1)) .nil))))) s_law_2
def s_law_4 : S := .seq (.ite (.cmpT .ne (.call 20 (.cons (.var 3) (.cons (.var 4) (.cons (.var 14) .nil)))) (.var 15))
 (.seq (.ret (.bl false))
 .nil)
 .nil) .nil
def s_law_5 : S := .seq (.for_ (.var 16) (.rng1 (.bin .sub (.var 14) (.int 1)))
 (.seq (.set 15 (.call 15 (.cons (.var 3) (.cons (.var 15) (.cons (.var 4) .nil)))))
 .nil)) s_law_4
def s_law_6 : S := .seq (.set 15 (.var 4)) s_law_5
def s_law_7 : S := .seq (.ite (.cmpT .ne (.call 12 (.cons (.var 3) (.cons (.var 22) .nil))) (.var 23))
 (.seq (.ret (.bl false))
 .nil)
 .nil) .nil
def s_law_8 : S := .seq (.set 23 (.andV (.chain .le .le (.bin .sub (.int 0) (.int 400)) (.ix (.var 22) (.int 1)) (.int 400)) (.orV (.chain .eq .eq (.ix (.var 22) (.int 0)) (.ix (.var 22) (.int 2)) (.int 0)) (.andV (.chain .le .le (.int 1) (.ix (.var 22) (.int 2)) (.int 200)) (.andV (.cmp .lt (.int 0) (.ix (.var 22) (.int 0))) (.andV (.cmp .ne (.bin .mod (.ix (.var 22) (.int 0)) (.var 3)) (.int 0)) (.cmp .lt (.ix (.var 22) (.int 0)) (.call 3 (.cons (.var 3) (.cons (.bi .max (.cons (.int 0) (.cons (.ix (.var 22) (.int 2)) .nil))) .nil)))))))))) s_law_7
def s_law_9 : S := .seq (.for_ (.var 22) (.seq (.var 21))
 s_law_8) .nil
def s_law_10 : S := .seq (.set 21 (.bin .add (.var 21) (.lst (.cons (.tup (.cons (.var 17) (.cons (.bin .sub (.int 0) (.int 401)) (.cons (.var 19) .nil)))) (.cons (.tup (.cons (.var 3) (.cons (.var 18) (.cons (.int 1) .nil)))) (.cons (.tup (.cons (.int 0) (.cons (.int 400) (.cons (.int 0) .nil)))) (.cons (.tup (.cons (.int 1) (.cons (.int 0) (.cons (.int 200) .nil)))) (.cons (.tup (.cons (.int 1) (.cons (.int 0) (.cons (.int 201) .nil)))) (.cons (.var 4) .nil))))))))) s_law_9
def s_law_11 : S := .seq (.set 21 (.lst (.cons (.tup (.cons (.bin .add (.var 17) (.var 20)) (.cons (.var 18) (.cons (.var 19) .nil)))) (.cons (.tup (.cons (.int 0) (.cons (.var 18) (.cons (.var 19) .nil)))) (.cons (.tup (.cons (.var 17) (.cons (.var 18) (.cons (.int 0) .nil)))) (.cons (.tup (.cons (.bin .sub (.int 0) (.var 17)) (.cons (.var 18) (.cons (.var 19) .nil)))) (.cons (.tup (.cons (.bin .mul (.var 17) (.var 3)) (.cons (.var 18) (.cons (.var 19) .nil)))) (.cons (.tup (.cons (.var 17) (.cons (.int 401) (.cons (.var 19) .nil)))) .nil)))))))) s_law_10
def s_law_12 : S := .seq (.set 20 (.call 3 (.cons (.var 3) (.cons (.var 19) .nil)))) s_law_11
def s_law_13 : S := .seq (.asg (.tup (.cons (.var 17) (.cons (.var 18) (.cons (.var 19) .nil)))) (.var 4)) s_law_12
def s_law_14 : S := .seq (.ite (.orT (.cmpT .ne (.call 21 (.cons (.var 3) (.cons (.var 8) (.cons (.var 9) (.cons (.var 7) .nil))))) (.call 10 (.cons (.var 3) (.cons (.var 8) (.cons (.var 9) (.cons (.var 7) .nil)))))) (.cmpT .ne (.call 22 (.cons (.var 3) (.cons (.var 8) (.cons (.var 9) .nil)))) (.ite (.cmpT .ne (.var 8) (.int 0)) (.bin .sub (.call 23 (.cons (.var 3) (.cons (.var 8) .nil))) (.call 23 (.cons (.var 3) (.cons (.var 9) .nil)))) .non)))
 (.seq (.ret (.bl false))
 .nil)
 .nil) s_law_13
def s_law_15 : S := .seq (.set 7 (.bin .sub (.call 1 (.cons (.var 1) (.cons (.int 121) .nil))) (.int 20))) s_law_14
def s_law_16 : S := .seq (.par2 8 9 false false (.bin .sub (.call 1 (.cons (.var 1) (.cons (.int 2001) .nil))) (.int 1000)) (.bin .add (.int 1) (.call 1 (.cons (.var 1) (.cons (.int 300) .nil))))) s_law_15
def s_law_17 : S := .seq (.ite (.cmpT .le (.bin .mul (.bi .abs (.cons (.ix (.var 4) (.int 1)) .nil)) (.var 14)) (.int 400))
 s_law_6
 .nil) s_law_16
def s_law_18 : S := .seq (.set 14 (.bin .add (.int 1) (.call 1 (.cons (.var 1) (.cons (.int 12) .nil))))) s_law_17
def s_law_19 : S := .seq (.ite (.andT (.cmpT .le (.neg (.int 100)) (.var 7)) (.cmpT .ne (.call 19 (.cons (.var 3) (.cons (.var 4) (.cons (.var 7) .nil)))) (.call 10 (.cons (.var 3) (.cons (.ix (.call 2 (.cons (.var 3) (.cons (.var 4) (.cons (.int 0) .nil)))) (.int 0)) (.cons (.ix (.call 2 (.cons (.var 3) (.cons (.var 4) (.cons (.int 0) .nil)))) (.int 1)) (.cons (.var 7) .nil)))))))
 (.seq (.ret (.bl false))
 .nil)
 .nil) s_law_18
def s_law_20 : S := .seq (.set 7 (.bin .sub (.call 7 (.cons (.var 4) .nil)) (.call 1 (.cons (.var 1) (.cons (.bin .add (.ix (.var 4) (.int 2)) (.int 4)) .nil))))) s_law_19
def s_law_21 : S := .seq (.ite (.cmpT .ne (.call 5 (.cons (.var 3) (.cons (.var 4) (.cons (.var 5) .nil)))) (.call 6 (.cons (.var 3) (.cons (.var 13) (.cons (.ix (.call 2 (.cons (.var 3) (.cons (.var 12) (.cons (.int 0) .nil)))) (.int 0)) (.cons (.ix (.call 2 (.cons (.var 3) (.cons (.var 12) (.cons (.int 0) .nil)))) (.int 1)) .nil))))))
 (.seq (.ret (.bl false))
 .nil)
 .nil) s_law_20
def s_law_22 : S := .seq (.asg (.tup (.cons (.var 12) (.cons (.var 13) .nil))) (.ite (.cmpT .ge (.call 7 (.cons (.var 4) .nil)) (.call 7 (.cons (.var 5) .nil))) (.tup (.cons (.var 4) (.cons (.var 5) .nil))) (.tup (.cons (.var 5) (.cons (.var 4) .nil))))) s_law_21
def s_law_23 : S := .seq (.ite (.orT (.cmpT .isn (.call 18 (.cons (.var 3) (.cons (.var 4) (.cons (.var 8) (.cons (.var 9) .nil))))) (.bl true)) (.cmpT .ne (.call 18 (.cons (.var 3) (.cons (.var 5) (.cons (.var 8) (.cons (.var 9) .nil))))) (.call 6 (.cons (.var 3) (.cons (.var 5) (.cons (.var 8) (.cons (.var 9) .nil)))))))
 (.seq (.ret (.bl false))
 .nil)
 .nil) s_law_22
def s_law_24 : S := .seq (.ite (.orT (.notT (.tru (.call 6 (.cons (.var 3) (.cons (.call 13 (.cons (.var 3) (.cons (.var 4) (.cons (.var 5) (.cons (.int 1) .nil))))) (.cons (.bin .add (.bin .mul (.var 8) (.var 11)) (.bin .mul (.var 10) (.var 9))) (.cons (.bin .mul (.var 9) (.var 11)) .nil))))))) (.notT (.tru (.call 6 (.cons (.var 3) (.cons (.call 15 (.cons (.var 3) (.cons (.var 4) (.cons (.var 5) .nil)))) (.cons (.bin .mul (.var 8) (.var 10)) (.cons (.bin .mul (.var 9) (.var 11)) .nil))))))))
 (.seq (.ret (.bl false))
 .nil)
 .nil) s_law_23
def s_law_25 : S := .seq (.asg (.tup (.cons (.var 10) (.cons (.var 11) .nil))) (.call 2 (.cons (.var 3) (.cons (.var 5) (.cons (.call 1 (.cons (.var 1) (.cons (.int 5) .nil))) .nil))))) s_law_24
def s_law_26 : S := .seq (.asg (.tup (.cons (.var 8) (.cons (.var 9) .nil))) (.call 2 (.cons (.var 3) (.cons (.var 4) (.cons (.call 1 (.cons (.var 1) (.cons (.int 5) .nil))) .nil))))) s_law_25
def s_law_27 : S := .seq (.ite (.andT (.cmpT .gt (.ix (.var 5) (.int 2)) (.int 0)) (.cmpT .ne (.call 16 (.cons (.var 3) (.cons (.var 4) (.cons (.var 5) .nil)))) (.call 17 (.cons (.var 3) (.cons (.var 4) (.cons (.var 5) .nil))))))
 (.seq (.ret (.bl false))
 .nil)
 .nil) s_law_26
def s_law_28 : S := .seq (.ite (.orT (.cmpT .ne (.call 8 (.cons (.var 3) (.cons (.var 4) (.cons (.var 5) .nil)))) (.call 13 (.cons (.var 3) (.cons (.var 4) (.cons (.var 5) (.cons (.int 1) .nil)))))) (.orT (.cmpT .ne (.call 9 (.cons (.var 3) (.cons (.var 4) (.cons (.var 5) .nil)))) (.call 13 (.cons (.var 3) (.cons (.var 4) (.cons (.var 5) (.cons (.neg (.int 1)) .nil)))))) (.cmpT .ne (.call 14 (.cons (.var 3) (.cons (.var 4) (.cons (.var 5) .nil)))) (.call 15 (.cons (.var 3) (.cons (.var 4) (.cons (.var 5) .nil)))))))
 (.seq (.ret (.bl false))
 .nil)
 .nil) s_law_27
def s_law_29 : S := .seq (.ite (.orT (.cmpT .ne (.call 11 (.cons (.var 4) .nil)) (.call 7 (.cons (.var 4) .nil))) (.cmpT .isn (.call 12 (.cons (.var 3) (.cons (.var 4) .nil))) (.bl true)))
 (.seq (.ret (.bl false))
 .nil)
 .nil) s_law_28
def s_law_30 : S := .seq (.ite (.cmpT .eq (.var 6) (.int 0))
 s_law_3
 .nil) s_law_29
def s_law_31 : S := .seq (.set 6 (.call 1 (.cons (.var 1) (.cons (.int 4) .nil)))) s_law_30
def s_law_32 : S := .seq (.par2 4 5 false false (.call 4 (.cons (.var 1) (.cons (.var 3) .nil))) (.call 4 (.cons (.var 1) (.cons (.var 3) .nil)))) s_law_31
def s_law_33 : S := .seq (.set 3 (.call 0 (.cons (.var 1) (.cons (.lst (.cons (.int 2) (.cons (.int 2) (.cons (.int 3) (.cons (.int 5) (.cons (.int 7) (.cons (.int 31) (.cons (.int 97) .nil)))))))) .nil)))) s_law_32
def s_law_34 : S := .seq (.ret (.andV (.cmp .eq (.call 8 (.cons (.int 2) (.cons (.tup (.cons (.int 1) (.cons (.int 0) (.cons (.int 3) .nil)))) (.cons (.tup (.cons (.int 1) (.cons (.int 0) (.cons (.int 3) .nil)))) .nil)))) (.tup (.cons (.int 1) (.cons (.int 1) (.cons (.int 2) .nil))))) (.andV (.cmp .eq (.call 9 (.cons (.int 3) (.cons (.tup (.cons (.int 1) (.cons (.int 0) (.cons (.int 2) .nil)))) (.cons (.tup (.cons (.int 1) (.cons (.int 0) (.cons (.int 5) .nil)))) .nil)))) (.tup (.cons (.int 0) (.cons (.int 2) (.cons (.int 0) .nil))))) (.cmp .is (.call 5 (.cons (.int 5) (.cons (.tup (.cons (.int 1) (.cons (.int 0) (.cons (.int 1) .nil)))) (.cons (.tup (.cons (.int 6) (.cons (.int 0) (.cons (.int 2) .nil)))) .nil)))) (.bl true))))) .nil
def s_law_35 : S := .seq (.for_ (.var 2) (.rng1 (.int 6))
 s_law_33) s_law_34
def g_law : List Str := ["_law_pick", "_law_draw", "_law_fraction", "_law_power", "_law_number", "agree", "_law_has", "_law_end", "plus", "minus", "_law_made", "end_of", "is_number", "_law_sum", "times", "_law_product", "over", "_law_quotient", "has", "cut", "power", "made", "height", "_law_high"]
def s_law : S := s_law_35
theorem m_law (gs : List Spc) : mtS ⟨g_law, gs, cns, false, false⟩ N_law s_law (defScope d_law) (defBody d_law).tail = true := by kernel_rfl
section
variable {P : Program} {w : World} {K : PySem.W.Frag} {mg : Str → Option Value} {base : Heap}
theorem bn (fx : Fx mg cns false) (x : Str) (h : x ∈ bltNames := by decide +kernel) : mg x = none := fx.blt x h
theorem ok_draw (c : Cx5 K mg) (C : MC) (hC : C.K = K) (k : Nat) : Cl P w K mg base (k + 1) "_law_draw" (liftSp C spDraw) := by
  have gl : mg "len" = none := bn c.fx "len"
  have gi : mg "int" = none := bn c.fx "int"
  exact draw_cl hC c.law_draw sc_law_draw fun cdv A outer s H E f => PSs.nox (pss_cons (ps_set (i := 2) sc_law_draw.nd rfl (Or.inl rfl) (pe_ix ix_list (pv 0) pe_int fun _ _ => rfl))
      (pss_cons (ps_while PassesOwn.never (PW.pt (pw_and (pt_cmp (pc_gt (pe_callB call_len rfl gl boot_len (pa_cons (pv 2) pa_nil)) pe_int)) (pw_and1 (pt_cmp (pc_eqI (pe_ix ix_list (pv 2) pe_int fun _ _ => rfl) pe_int)))))
          (pss_one (ps_expr (pe_bm PySem.F.plainAttrs_list PySem.F.slot_list_pop PySem.F.type_list_pop mt_popAt (pv 2) (pa_cons pe_int pa_nil)))))
        (pss_cons (ps_if (pt_cmp (pc_gt (pe_callB call_len rfl gl boot_len (pa_cons (pv 2) pa_nil)) pe_int))
            (pss_cons (ps_set (i := 3) sc_law_draw.nd rfl (Or.inl rfl) (pe_ix ix_list (pv 2) pe_int fun _ _ => rfl))
              (pss_cons (ps_asg (pe_op op_fdivW (pv 3) (pv 1)) (pg_sub (pv 2) pe_int set_list))
                (pss_one (ps_ret (pe_op op_mod (pe_callTy call_int1 rfl gi boot_int (pa_cons (pv 3) pa_nil)) (pv 1)))))) pss_nil)
          (pss_cons (ps_set (i := 4) sc_law_draw.nd rfl (Or.inl rfl) (pe_op op_mod (pe_callTy call_int1 rfl gi boot_int (pa_cons (pe_op op_add (pe_op op_mul (pe_ix ix_list (pv 0) pe_int fun _ _ => rfl) pe_int) pe_int) pa_nil)) pe_int))
            (pss_cons (ps_asg (pv 4) (pg_sub (pv 0) pe_int set_list))
              (pss_one (ps_ret (pe_op op_mod (pe_callTy call_int1 rfl gi boot_int (pa_cons (pe_op op_fdivW (pv 4) pe_int) pa_nil)) (pv 1)))))))))
theorem ok_state (c : Cx5 K mg) (k : Nat) : ∃ (f : Addr) (fd : FuncData), FnOk P w K mg base CXn (k + 1) f fd ["script"] (spState K) ∧ mg "_law_state" = some (.ref f) ∧ PySem.W.keepIn K (.ref f) = true ∧ Binds K fd ["script"] [] := by
  have ga : mg "abs" = none := bn c.fx "abs"
  have gi : mg "int" = none := bn c.fx "int"
  obtain ⟨f, fd, F, hmg, hb⟩ := c.law_state.ex
  refine ⟨f, fd, F.ok sc_law_state (fun vs H Q E h => ?_) (fun cdv A outer s H vs Q E hr h => ⟨t_state K, PSs.nox ?_, state_sp h⟩), hmg, F.kp, hb⟩
  · obtain ⟨a, ns, rfl, _⟩ := h; rfl
  · exact pss_cons (ps_set (i := 1) sc_law_state.nd rfl (Or.inl rfl) pe_int)
      (pss_cons (ps_for PassesOwn.never rfl (pi_list (pv 0)) (pg_name (i := 2) sc_law_state.nd rfl (Or.inl rfl))
          (pss_one (ps_set (i := 1) sc_law_state.nd rfl (Or.inl rfl) (pe_op op_mod (pe_callTy call_int1 rfl gi boot_int (pa_cons (pe_op op_add (pe_op op_mul (pv 1) pe_int) (pv 2)) pa_nil)) pe_int))))
        (pss_one (ps_ret (pe_lst (pa_cons (pe_lc (own := [("cell", 2)]) (g := gName 2) (tt := tYes) rfl sc_law_state.nd (pi_list (pv 0)) (blkOk_by (own := [("cell", 2)]) (N := N_law_state) (sc := defScope d_law_state) (by decide +kernel)) (fun _ _ _ _ _ => pg_name (i := 2) sc_law_state.nd rfl (Or.inl rfl)) (fun _ _ _ _ _ => pts_nil) (fun _ _ _ _ _ => pe_callB call_abs rfl ga boot_abs (pa_cons (pv 2) pa_nil))) (pa_cons (pe_op op_add (pv 1) pe_int) pa_nil))))))
end
end K05

namespace K05
open PySem PySem.Spec PyProof.Rows L2 Mp Nu
theorem mulB {k l : Nat} {x y : Int} (h : B k x) (h' : B l y) (hk : k + l ≤ 134217728 := by decide) : MulOk x y := by
  refine .inr ?_
  have h1 : Builtin.Int.intBits x ≤ k := intBits_le_iff.mpr h
  have h2 : Builtin.Int.intBits y ≤ l := intBits_le_iff.mpr h'
  show ((Builtin.Int.intBits x : Nat) : Int) + ((Builtin.Int.intBits y : Nat) : Int) ≤ 134217728
  omega
theorem mulR {x y : Int} (h : y.natAbs < 2 ^ 64 := by omega) : MulOk x y := .inl (.inr ⟨by omega, by omega⟩)
theorem mulL {x y : Int} (h : x.natAbs < 2 ^ 64 := by omega) : MulOk x y := .inl (.inl ⟨by omega, by omega⟩)
theorem B.log {x : Int} (h : B 9000 x) : x.natAbs.log2 < 9000 := by
  by_cases z : x.natAbs = 0
  · rw [z]; decide
  · exact (Nat.log2_lt z).mpr h
def Pp (p : Int) : Prop := 2 ≤ p ∧ p ≤ 97
theorem Pp.log {p : Int} (h : Pp p) : p.natAbs.log2 < 9000 := small_log (by have := h.1; have := h.2; omega)
theorem Pp.small {p : Int} (h : Pp p) : p.natAbs < 2 ^ 64 := by have := h.1; have := h.2; omega
theorem Pp.pow {p : Int} (h : Pp p) {n k : Nat} (hn : 7 * n + 1 ≤ k) : B k (p ^ n) :=
  B.mono (B.pow (k := 7) (show p.natAbs < 2 ^ 7 by have := h.1; have := h.2; omega) n) hn
theorem Pr.pp {p : Int} (h : Pr p) : Pp p := ⟨h.1, h.2.1⟩
/-! ### raised -/
def P_raised : List D → Prop
  | [.int p, .int n] => Pp p ∧ n < 2 ^ 62 ∧ -(2 ^ 62) ≤ n
  | _ => False
def F_raised : List D → D
  | [.int p, .int n] => .int (p ^ n.toNat)
  | _ => .none
@[simp] theorem P_raised_i {p n : Int} : P_raised [.int p, .int n] ↔ Pp p ∧ n < 2 ^ 62 ∧ -(2 ^ 62) ≤ n := Iff.rfl
@[simp] theorem F_raised_i {p n : Int} : F_raised [.int p, .int n] = .int (p ^ n.toNat) := rfl
abbrev sp_raised : Spc := Fsp P_raised F_raised
theorem w_raised : ∀ ds Q, sp_raised ds Q → wS [] s_raised ⟨fun _ => Q .none, Q⟩ (initE N_raised.length ds) := by
  rintro ds Q ⟨hp, hq⟩
  match ds, hp with
  | [.int p, .int n], ⟨hp, hn, hn'⟩ =>
    show wS [] s_raised _ [.sh (.int p), .sh (.int n), .un, .un]
    simp only [s_raised, wS_seq, wS_set, wE_int, wS_for, wI_rng1, wE_var, List.set_cons_succ, List.set_cons_zero, List.getElem?_cons_succ, List.getElem?_cons_zero]
    refine ⟨n, rfl, ⟨hn', hn⟩, for_rng (fun k ρ => ∃ c, ρ = [.sh (.int p), .sh (.int n), .sh (.int (p ^ k)), c]) ⟨_, by rw [Int.pow_zero]⟩ ?_ ?_⟩
    · rintro k ρ R hk ⟨c, rfl⟩ hR
      simp
      exact ⟨mulR (by have := hp.1; have := hp.2; omega), hR _ ⟨_, by rw [Int.pow_succ]⟩⟩
    · rintro ρ ⟨c, rfl⟩
      simpa using hq
/-! ### divided_out -/
def P_dout : List D → Prop
  | [.int p, .int a] => Pp p ∧ a ≠ 0
  | _ => False
def F_dout : List D → D
  | [.int p, .int a] => .tuple [.int (hi p a), .int (a / p ^ hi p a)]
  | _ => .none
@[simp] theorem P_dout_i {p n : Int} : P_dout [.int p, .int n] ↔ Pp p ∧ n ≠ 0 := Iff.rfl
@[simp] theorem F_dout_i {p a : Int} : F_dout [.int p, .int a] = .tuple [.int (hi p a), .int (a / p ^ hi p a)] := rfl
abbrev sp_divided_out : Spc := Fsp P_dout F_dout
theorem w_divided_out : ∀ ds Q, sp_divided_out ds Q → wS [] s_divided_out ⟨fun _ => Q .none, Q⟩ (initE N_divided_out.length ds) := by
  rintro ds Q ⟨hp, hq⟩
  match ds, hp with
  | [.int p, .int a], ⟨hp, ha⟩ =>
    show wS [] s_divided_out _ [.sh (.int p), .sh (.int a), .un]
    simp only [s_divided_out, wS_seq, wS_set, wE_int, List.set_cons_succ, List.set_cons_zero]
    refine whl_rule (fun m ρ => ∃ (b : Int) (t : Nat), ρ = [.sh (.int p), .sh (.int b), .sh (.int t)] ∧ b ≠ 0 ∧ m = b.natAbs ∧ t + hi p b = hi p a ∧ a = p ^ t * b) _ ⟨a, 0, rfl, ha, rfl, by omega, by rw [Int.pow_zero, Int.one_mul]⟩ ?_
    rintro m ρ ⟨b, t, rfl, hb, rfl, ht, e⟩
    have h0 : 0 < p := by have := hp.1; omega
    simp [bin_mod_pos h0, bin_fdiv_pos h0]
    by_cases hd : p ∣ b
    · rw [if_pos (Int.emod_eq_zero_of_dvd hd)]
      obtain ⟨s1, s2, s3⟩ := hi_step hp.1 hb hd
      refine ⟨hp.log, _, s3, b / p, t + 1, ⟨rfl, by omega⟩, s2, rfl, by omega, ?_⟩
      rw [e, Int.pow_succ, Int.mul_assoc, Int.mul_ediv_cancel' hd]
    · rw [if_neg fun z => hd (Int.dvd_of_emod_eq_zero z)]
      have z := hi_zero hp.1 hd
      have e2 : hi p a = t := by omega
      have e3 : a / p ^ hi p a = b := by
        rw [e2]
        conv => lhs; rw [e]
        exact Int.mul_ediv_cancel_left _ (by have := Nu.pow_pos hp.1 t; omega)
      rw [F_dout_i, e2, ← e2, e3, e2] at hq
      exact hq
/-! ### height -/
def P_height : List D → Prop
  | [.int p, .int a, .int b] => Pp p ∧ b ≠ 0
  | _ => False
def F_height : List D → D
  | [.int p, .int a, .int b] => if a = 0 then .none else .int (hi p a - hi p b)
  | _ => .none
@[simp] theorem P_height_i {p a b : Int} : P_height [.int p, .int a, .int b] ↔ Pp p ∧ b ≠ 0 := Iff.rfl
@[simp] theorem F_height_i {p a b : Int} : F_height [.int p, .int a, .int b] = if a = 0 then .none else .int (hi p a - hi p b) := rfl
abbrev sp_height : Spc := Fsp P_height F_height
theorem w_height : ∀ ds Q, sp_height ds Q → wS [sp_divided_out] s_height ⟨fun _ => Q .none, Q⟩ (initE N_height.length ds) := by
  rintro ds Q ⟨hp, hq⟩
  match ds, hp with
  | [.int p, .int a, .int b], ⟨hp, hb⟩ =>
    show wS [sp_divided_out] s_height _ [.sh (.int p), .sh (.int a), .sh (.int b)]
    simp [s_height]
    by_cases ha : a = 0
    · subst ha
      simpa using hq
    · simp [ha] at hq ⊢
      exact ⟨hp, ⟨hp, hb⟩, hq⟩
/-! ### back_of, _law_back -/
structure BI (a n r0 t0 r t : Int) : Prop where
  d : n ∣ a * t - r
  d0 : n ∣ a * t0 - r0
  z : Bz r r0
  p : 0 ≤ r
  l : r < r0
  u : r0 ≤ n
  s : (0 ≤ t ∧ t0 ≤ 0 ∧ r0 * t - r * t0 = n) ∨ (t ≤ 0 ∧ 0 ≤ t0 ∧ r * t0 - r0 * t = n)
theorem BI.start {a n : Int} (h : Bz a n) (hn : 0 < n) : BI a n n 0 (a % n) 1 where
  d := by
    have h1 := Int.mul_ediv_add_emod a n
    exact ⟨a / n, by omega⟩
  d0 := ⟨-1, by omega⟩
  z := h.emod
  p := Int.emod_nonneg _ (by omega)
  l := Int.emod_lt_of_pos _ hn
  u := Int.le_refl _
  s := .inl ⟨by omega, by omega, by omega⟩
theorem BI.step {a n r0 t0 r t : Int} (h : BI a n r0 t0 r t) (hr : 0 < r) : BI a n r t (r0 % r) (t0 - r0 / r * t) where
  d := by
    obtain ⟨c, hc⟩ := h.d
    obtain ⟨c0, hc0⟩ := h.d0
    have h1 := Int.mul_ediv_add_emod r0 r
    refine ⟨c0 - r0 / r * c, ?_⟩
    grind
  d0 := h.d
  z := by
    obtain ⟨x, y, e⟩ := h.z
    have h1 := Int.mul_ediv_add_emod r0 r
    refine ⟨y + x * (r0 / r), x, ?_⟩
    grind
  p := Int.emod_nonneg _ (by omega)
  l := Int.emod_lt_of_pos _ hr
  u := by have := h.l; have := h.u; omega
  s := by
    have h1 := Int.mul_ediv_add_emod r0 r
    have hq : 0 ≤ r0 / r := Int.ediv_nonneg (by have := h.l; omega) (by omega)
    rcases h.s with ⟨s1, s2, s3⟩ | ⟨s1, s2, s3⟩
    · right
      have h2 := Int.mul_nonneg hq s1
      exact ⟨by omega, s1, by grind⟩
    · left
      have h2 := Int.mul_nonneg hq (show 0 ≤ -t by omega)
      rw [Int.mul_neg] at h2
      exact ⟨by omega, s1, by grind⟩
theorem B.le {k : Nat} {x y : Int} (h : x.natAbs ≤ y.natAbs) (hy : B k y) : B k x := Nat.lt_of_le_of_lt h hy
theorem BI.le {a n r0 t0 r t : Int} (h : BI a n r0 t0 r t) : t.natAbs ≤ n.natAbs := by
  have h1 := h.l
  have h2 := h.p
  rcases h.s with ⟨s1, s2, s3⟩ | ⟨s1, s2, s3⟩
  · have h3 : 1 * t ≤ r0 * t := Int.mul_le_mul_of_nonneg_right (by omega) s1
    have h4 := Int.mul_nonneg h2 (show 0 ≤ -t0 by omega)
    rw [Int.mul_neg] at h4
    omega
  · have h3 : 1 * (-t) ≤ r0 * (-t) := Int.mul_le_mul_of_nonneg_right (by omega) (by omega)
    simp only [Int.mul_neg] at h3
    have h4 := Int.mul_nonneg h2 s2
    omega
theorem BI.bt {a n r0 t0 r t : Int} (h : BI a n r0 t0 r t) (hn : B 9000 n) : B 9000 t := B.le h.le hn
theorem BI.br {a n r0 t0 r t : Int} (h : BI a n r0 t0 r t) (hn : B 9000 n) : B 9000 r ∧ B 9000 r0 := by
  have h1 := h.l
  have h2 := h.p
  have h3 := h.u
  exact ⟨B.le (by omega) hn, B.le (by omega) hn⟩
theorem BI.inv1 {a n r0 t0 t : Int} (h : BI a n r0 t0 1 t) (hn : 0 < n) : inv a n = t % n := inv_mod hn h.d
theorem BI.inv0 {a n r0 t0 t : Int} (h : BI a n r0 t0 0 t) (hn : 0 < n) : inv a n = t0 % n := by
  obtain ⟨x, y, e⟩ := h.z
  have h1 : r0 ∣ 1 := ⟨x, by rw [Int.mul_zero, Int.add_zero] at e; rw [← e, Int.mul_comm]⟩
  have h2 := Int.le_of_dvd (by omega) h1
  have h3 := h.l
  have h4 : r0 = 1 := by omega
  have h5 := h.d0
  rw [h4] at h5
  exact inv_mod hn h5
def P_back : List D → Prop
  | [.int a, .int n] => Bz a n ∧ 0 < n ∧ B 9000 n
  | _ => False
noncomputable def F_back : List D → D
  | [.int a, .int n] => .int (inv a n)
  | _ => .none
@[simp] theorem P_back_i {a n : Int} : P_back [.int a, .int n] ↔ Bz a n ∧ 0 < n ∧ B 9000 n := Iff.rfl
@[simp] theorem F_back_i {a n : Int} : F_back [.int a, .int n] = .int (inv a n) := rfl
noncomputable abbrev sp_back_of : Spc := Fsp P_back F_back
theorem w_back_of : ∀ ds Q, sp_back_of ds Q → wS [] s_back_of ⟨fun _ => Q .none, Q⟩ (initE N_back_of.length ds) := by
  rintro ds Q ⟨hp, hq⟩
  match ds, hp with
  | [.int a, .int n], ⟨hz, hn, hb⟩ =>
    show wS [] s_back_of _ [.sh (.int a), .sh (.int n), .un, .un, .un]
    simp only [s_back_of, wS_seq]
    simp [bin_mod_pos hn]
    refine whl_rule (fun m ρ => ∃ (r0 t0 r t : Int) (c : Cell), ρ = [.sh (.int a), .sh (.int n), .sh (.tuple [.int r0, .int t0]), .sh (.tuple [.int r, .int t]), c] ∧ BI a n r0 t0 r t ∧ (1 < r0 ∨ n = 1) ∧ m = r.toNat) _ ⟨_, _, _, _, _, rfl, BI.start hz hn, by omega, rfl⟩ ?_
    rintro m ρ ⟨r0, t0, r, t, c, rfl, bi, h1, rfl⟩
    simp [bin_mod_pos hn]
    by_cases hr : 1 < r
    · simp [hr, bin_fdiv_pos (show 0 < r by omega)]
      obtain ⟨b1, b2⟩ := bi.br hb
      have b3 := bi.bt hb
      have bq : B 9000 (r0 / r) := b2.ediv
      have e1 : r0 - r0 / r * r = r0 % r := by
        have h1 := Int.mul_ediv_add_emod r0 r
        rw [Int.mul_comm] at h1
        omega
      have bs := bi.step (by omega)
      refine ⟨B.log b1, mulB bq b1, mulB bq b3, _, ?_, r, t, r0 % r, t0 - r0 / r * t, ⟨⟨rfl, rfl⟩, e1, rfl⟩, bs, .inl hr, rfl⟩
      have := bs.l
      have := bs.p
      omega
    · simp [hr]
      have : inv a n = t % n := by
        have := bi.p
        have h2 : r = 1 ∨ r = 0 := by omega
        rcases h2 with rfl | rfl
        · exact bi.inv1 hn
        · rcases h1 with h1 | h1
          · obtain ⟨x, y, e⟩ := bi.z
            have h1 : r0 ∣ 1 := ⟨x, by rw [Int.mul_zero, Int.add_zero] at e; rw [← e, Int.mul_comm]⟩
            have h2 := Int.le_of_dvd (by omega) h1
            omega
          · exact inv_mod hn (by rw [h1]; exact Int.one_dvd _)
      rw [F_back_i, this] at hq
      exact hq
noncomputable abbrev sp_law_back : Spc := Fsp P_back F_back
theorem w_law_back : ∀ ds Q, sp_law_back ds Q → wS [] s_law_back ⟨fun _ => Q .none, Q⟩ (initE N_law_back.length ds) := by
  rintro ds Q ⟨hp, hq⟩
  match ds, hp with
  | [.int a, .int n], ⟨hz, hn, hb⟩ =>
    show wS [] s_law_back _ [.sh (.int a), .sh (.int n), .un, .un, .un, .un]
    simp only [s_law_back, wS_seq]
    simp [bin_mod_pos hn]
    refine whl_rule (fun m ρ => ∃ (r0 t0 r t : Int), ρ = [.sh (.int a), .sh (.int n), .sh (.int r0), .sh (.int r), .sh (.int t0), .sh (.int t)] ∧ BI a n r0 t0 r t ∧ m = r.toNat) _ ⟨_, _, _, _, rfl, BI.start hz hn, rfl⟩ ?_
    rintro m ρ ⟨r0, t0, r, t, rfl, bi, rfl⟩
    simp [bin_mod_pos hn]
    by_cases hr : 0 < r
    · simp [hr, bin_fdiv_pos hr, bin_mod_pos hr]
      obtain ⟨b1, b2⟩ := bi.br hb
      have b3 := bi.bt hb
      have bq : B 9000 (r0 / r) := b2.ediv
      have bs := bi.step hr
      refine ⟨B.log b1, mulB bq b3, _, ?_, r, t, r0 % r, t0 - r0 / r * t, ⟨rfl, rfl, rfl, rfl⟩, bs, rfl⟩
      have := bs.l
      have := bs.p
      omega
    · simp [hr]
      have : inv a n = t0 % n := by
        have := bi.p
        have h2 : r = 0 := by omega
        subst h2
        exact bi.inv0 hn
      rw [F_back_i, this] at hq
      exact hq
end K05

namespace K05
open PySem PySem.Spec PyProof.Rows L2 Mp Nu
abbrev Nm := Int × Int × Int
@[simp] theorem tri_eq {n : Nm} : tri n = .tuple [.int n.1, .int n.2.1, .int n.2.2] := rfl
theorem pp0 {p : Int} (h : Pp p) : 0 < p := by have := h.1; omega
theorem pw0 {p : Int} (h : Pp p) (n : Nat) : 0 < p ^ n := Nu.pow_pos h.1 n
structure Nb (x : Nm) : Prop where
  u : B 3000 x.1
  s0 : -1000 ≤ x.2.1
  s1 : x.2.1 ≤ 1000
  d0 : 0 ≤ x.2.2
  d1 : x.2.2 ≤ 400
def endF (x : Nm) : Int := x.2.1 + x.2.2
/-! ### end_of, _law_end -/
def P_end : List D → Prop
  | [.tuple [.int a, .int b, .int c]] => True
  | _ => False
def F_end : List D → D
  | [.tuple [.int a, .int b, .int c]] => .int (endF (a, b, c))
  | _ => .none
@[simp] theorem P_end_i {a b c : Int} : P_end [.tuple [.int a, .int b, .int c]] ↔ True := Iff.rfl
@[simp] theorem F_end_i {a b c : Int} : F_end [.tuple [.int a, .int b, .int c]] = .int (endF (a, b, c)) := rfl
abbrev sp_end_of : Spc := Fsp P_end F_end
theorem w_end_of : ∀ ds Q, sp_end_of ds Q → wS [] s_end_of ⟨fun _ => Q .none, Q⟩ (initE N_end_of.length ds) := by
  rintro ds Q ⟨hp, hq⟩
  match ds, hp with
  | [.tuple [.int a, .int b, .int c]], _ =>
    show wS [] s_end_of _ [.sh (.tuple [.int a, .int b, .int c])]
    simpa [s_end_of, endF] using hq
abbrev sp_law_end : Spc := Fsp P_end F_end
theorem w_law_end : ∀ ds Q, sp_law_end ds Q → wS [] s_law_end ⟨fun _ => Q .none, Q⟩ (initE N_law_end.length ds) := w_end_of
/-! ### is_number -/
def isF (p : Int) (x : Nm) : Bool := decide (-400 ≤ x.2.1 ∧ x.2.1 ≤ 400 ∧ 0 ≤ x.2.2 ∧ x.2.2 ≤ 200 ∧ if x.2.2 = 0 then x.1 = 0 else 1 ≤ x.1 ∧ x.1 < p ^ x.2.2.toNat ∧ ¬ x.1 % p = 0)
def P_isn : List D → Prop
  | [.int p, .tuple [.int a, .int b, .int c]] => Pp p
  | _ => False
def F_isn : List D → D
  | [.int p, .tuple [.int a, .int b, .int c]] => .bool (isF p (a, b, c))
  | _ => .none
@[simp] theorem P_isn_i {p a b c : Int} : P_isn [.int p, .tuple [.int a, .int b, .int c]] ↔ Pp p := Iff.rfl
@[simp] theorem F_isn_i {p a b c : Int} : F_isn [.int p, .tuple [.int a, .int b, .int c]] = .bool (isF p (a, b, c)) := rfl
abbrev sp_is_number : Spc := Fsp P_isn F_isn
theorem w_is_number : ∀ ds Q, sp_is_number ds Q → wS [sp_raised] s_is_number ⟨fun _ => Q .none, Q⟩ (initE N_is_number.length ds) := by
  rintro ds Q ⟨hp, hq⟩
  match ds, hp with
  | [.int p, .tuple [.int a, .int b, .int c]], hp =>
    have hp : Pp p := hp
    show wS [sp_raised] s_is_number _ [.sh (.int p), .sh (.tuple [.int a, .int b, .int c]), .un, .un, .un]
    simp [s_is_number, bin_mod_pos (pp0 hp), hp]
    simp [isF] at hq
    by_cases h1 : -400 ≤ b <;> by_cases h2 : b ≤ 400 <;> by_cases h3 : 0 ≤ c <;> by_cases h4 : c ≤ 200 <;> simp [h1, h2, h3, h4] at hq ⊢ <;> try exact hq
    by_cases h5 : c = 0
    · simp [h5] at hq ⊢
      exact hq
    · simp [h5] at hq ⊢
      by_cases h6 : 1 ≤ a <;> simp [h6] at hq ⊢
      · refine ⟨⟨by omega, by omega⟩, ?_⟩
        by_cases h7 : a < p ^ c.toNat
        · simp [h7] at hq ⊢
          exact .inr hq
        · simp [h7] at hq ⊢
          exact ⟨by omega, hq⟩
      · exact hq
/-! ### settled -/
def settledF (p w s e : Int) : Nm := if e ≤ s then (0, e, 0) else if w % p ^ (e - s).toNat = 0 then (0, e, 0) else
  (w % p ^ (e - s).toNat / p ^ hi p (w % p ^ (e - s).toNat), s + hi p (w % p ^ (e - s).toNat), e - s - hi p (w % p ^ (e - s).toNat))
def P_settled : List D → Prop
  | [.int p, .int w, .int s, .int e] => Pp p ∧ e - s < 2 ^ 62
  | _ => False
def F_settled : List D → D
  | [.int p, .int w, .int s, .int e] => tri (settledF p w s e)
  | _ => .none
@[simp] theorem P_settled_i {p w s e : Int} : P_settled [.int p, .int w, .int s, .int e] ↔ Pp p ∧ e - s < 2 ^ 62 := Iff.rfl
@[simp] theorem F_settled_i {p w s e : Int} : F_settled [.int p, .int w, .int s, .int e] = tri (settledF p w s e) := rfl
abbrev sp_settled : Spc := Fsp P_settled F_settled
theorem w_settled : ∀ ds Q, sp_settled ds Q → wS [sp_divided_out, sp_raised] s_settled ⟨fun _ => Q .none, Q⟩ (initE N_settled.length ds) := by
  rintro ds Q ⟨hp, hq⟩
  match ds, hp with
  | [.int p, .int w, .int s, .int e], ⟨hp, hl⟩ =>
    show wS [sp_divided_out, sp_raised] s_settled _ [.sh (.int p), .sh (.int w), .sh (.int s), .sh (.int e), .un, .un, .un]
    simp [s_settled, hp]
    simp [settledF] at hq
    by_cases h1 : e ≤ s
    · simp [h1] at hq ⊢
      exact hq
    · simp [h1] at hq ⊢
      refine ⟨⟨hl, by omega⟩, ?_⟩
      rw [bin_mod_pos (pw0 hp _)]
      simp
      by_cases h2 : w % p ^ (e - s).toNat = 0
      · simp [h2] at hq ⊢
        exact hq
      · simp [h2, hp] at hq ⊢
        exact hq
/-! ### made -/
structure Pmd (p a b e : Int) : Prop where
  pr : Pr p
  b0 : b ≠ 0
  a1 : B 100000 a
  b1 : B 100000 b
  hb : hi p b ≤ 1200
  hbe : hi p b + e ≤ 1200
  he : a ≠ 0 → e - (hi p a - hi p b) ≤ 1000
/-- the inverse of the lower number's bare part -/
theorem Pmd.bz {p a b e : Int} (h : Pmd p a b e) (k : Nat) : Bz (b / p ^ hi p b) (p ^ k) := by
  obtain ⟨u, hu, hd⟩ := hi_spec h.pr.1 h.b0
  have : b / p ^ hi p b = u := by
    conv => lhs; arg 1; rw [hu]
    exact Int.mul_ediv_cancel_left _ (by have := Nu.pow_pos h.pr.1 (hi p b); omega)
  rw [this]
  exact (h.pr.2.2 u hd).pow k
noncomputable def madeF (p a b e : Int) : Nm := if a = 0 then (0, e, 0) else if e ≤ hi p a - hi p b then (0, e, 0) else
  settledF p (a / p ^ hi p a * inv (b / p ^ hi p b) (p ^ (e - (hi p a - hi p b)).toNat)) (hi p a - hi p b) e
def P_made : List D → Prop
  | [.int p, .int a, .int b, .int e] => Pmd p a b e
  | _ => False
noncomputable def F_made : List D → D
  | [.int p, .int a, .int b, .int e] => tri (madeF p a b e)
  | _ => .none
@[simp] theorem P_made_i {p w s e : Int} : P_made [.int p, .int w, .int s, .int e] ↔ Pmd p w s e := Iff.rfl
@[simp] theorem F_made_i {p w s e : Int} : F_made [.int p, .int w, .int s, .int e] = tri (madeF p w s e) := rfl
noncomputable abbrev sp_made : Spc := Fsp P_made F_made
theorem inv_lt {a n : Int} (h : Bz a n) (hn : 0 < n) : 0 ≤ inv a n ∧ inv a n < n ∧ n ∣ a * inv a n - 1 := by
  obtain ⟨x, y, e⟩ := h
  have hd : n ∣ a * y - 1 := ⟨-x, by grind⟩
  rw [inv_mod hn hd]
  refine ⟨Int.emod_nonneg _ (by omega), Int.emod_lt_of_pos _ hn, ?_⟩
  have h1 := Int.mul_ediv_add_emod y n
  obtain ⟨c, hc⟩ := hd
  exact ⟨c - a * (y / n), by grind⟩
theorem inv_B {a n : Int} {k : Nat} (h : Bz a n) (hn : 0 < n) (hb : B k n) : B k (inv a n) := by
  obtain ⟨h1, h2, _⟩ := inv_lt h hn
  exact B.le (by omega) hb
theorem w_made : ∀ ds Q, sp_made ds Q → wS [sp_divided_out, sp_raised, sp_settled, sp_back_of] s_made ⟨fun _ => Q .none, Q⟩ (initE N_made.length ds) := by
  rintro ds Q ⟨hp, hq⟩
  match ds, hp with
  | [.int p, .int a, .int b, .int e], h =>
    have h : Pmd p a b e := h
    show wS [sp_divided_out, sp_raised, sp_settled, sp_back_of] s_made _ [.sh (.int p), .sh (.int a), .sh (.int b), .sh (.int e), .un, .un, .un, .un, .un, .un]
    have pp := Pr.pp h.pr
    simp [s_made, pp, h.b0]
    simp [madeF] at hq
    by_cases h1 : a = 0
    · simp [h1] at hq ⊢
      exact hq
    · simp [h1] at hq ⊢
      by_cases h2 : e ≤ hi p a - hi p b
      · simp [h2] at hq ⊢
        exact hq
      · simp [h2] at hq ⊢
        have h3 := h.he h1
        have b9 : B 9000 (p ^ (e - (hi p a - hi p b)).toNat) := pp.pow (by omega)
        have bz := h.bz (e - (hi p a - hi p b)).toNat
        refine ⟨⟨by omega, by omega⟩, ⟨bz, pw0 pp _, b9⟩, mulB (h.a1.ediv) (inv_B bz (pw0 pp _) b9), by omega, hq⟩
end K05

namespace K05
open PySem PySem.Spec PyProof.Rows L2 Mp Nu
/-! ### minus_fraction, value_of, has -/
def P_mf : List D → Prop
  | [.int a, .int b, .int c, .int e] => B 100000 a ∧ B 100000 b ∧ B 100000 c ∧ B 100000 e
  | _ => False
def F_mf : List D → D
  | [.int a, .int b, .int c, .int e] => .tuple [.int (a * e - c * b), .int (b * e)]
  | _ => .none
@[simp] theorem P_mf_i {a b c e : Int} : P_mf [.int a, .int b, .int c, .int e] ↔ B 100000 a ∧ B 100000 b ∧ B 100000 c ∧ B 100000 e := Iff.rfl
@[simp] theorem F_mf_i {a b c e : Int} : F_mf [.int a, .int b, .int c, .int e] = .tuple [.int (a * e - c * b), .int (b * e)] := rfl
abbrev sp_minus_fraction : Spc := Fsp P_mf F_mf
theorem w_minus_fraction : ∀ ds Q, sp_minus_fraction ds Q → wS [] s_minus_fraction ⟨fun _ => Q .none, Q⟩ (initE N_minus_fraction.length ds) := by
  rintro ds Q ⟨hp, hq⟩
  match ds, hp with
  | [.int a, .int b, .int c, .int e], ⟨h1, h2, h3, h4⟩ =>
    show wS [] s_minus_fraction _ [.sh (.int a), .sh (.int b), .sh (.int c), .sh (.int e)]
    simp [s_minus_fraction]
    exact ⟨mulB h1 h4, mulB h3 h2, mulB h2 h4, hq⟩
def valF (p : Int) (x : Nm) : Int × Int := if 0 ≤ x.2.1 then (x.1 * p ^ x.2.1.toNat, 1) else (x.1, p ^ (-x.2.1).toNat)
def P_val : List D → Prop
  | [.int p, .tuple [.int a, .int b, .int c]] => Pp p ∧ Nb (a, b, c)
  | _ => False
def F_val : List D → D
  | [.int p, .tuple [.int a, .int b, .int c]] => .tuple [.int (valF p (a, b, c)).1, .int (valF p (a, b, c)).2]
  | _ => .none
@[simp] theorem P_val_i {p a b c : Int} : P_val [.int p, .tuple [.int a, .int b, .int c]] ↔ Pp p ∧ Nb (a, b, c) := Iff.rfl
@[simp] theorem F_val_i {p a b c : Int} : F_val [.int p, .tuple [.int a, .int b, .int c]] = .tuple [.int (valF p (a, b, c)).1, .int (valF p (a, b, c)).2] := rfl
abbrev sp_value_of : Spc := Fsp P_val F_val
theorem w_value_of : ∀ ds Q, sp_value_of ds Q → wS [sp_raised] s_value_of ⟨fun _ => Q .none, Q⟩ (initE N_value_of.length ds) := by
  rintro ds Q ⟨hp, hq⟩
  match ds, hp with
  | [.int p, .tuple [.int a, .int b, .int c]], ⟨hp, n⟩ =>
    have n1 := n.s0
    have n2 := n.s1
    simp only at n1 n2
    show wS [sp_raised] s_value_of _ [.sh (.int p), .sh (.tuple [.int a, .int b, .int c]), .un, .un, .un]
    simp [s_value_of, hp]
    simp [valF] at hq
    by_cases h1 : 0 ≤ b
    · simp [h1] at hq ⊢
      exact ⟨⟨by omega, by omega⟩, mulB n.u (hp.pow (n := b.toNat) (k := 7001) (by omega)), hq⟩
    · simp [h1] at hq ⊢
      exact ⟨⟨by omega, by omega⟩, hq⟩
theorem valB {p : Int} {x : Nm} (hp : Pp p) (n : Nb x) : B 100000 (valF p x).1 ∧ B 100000 (valF p x).2 ∧ 0 < (valF p x).2 := by
  have n1 := n.s0
  have n2 := n.s1
  unfold valF
  split
  · exact ⟨(n.u.mul (hp.pow (n := x.2.1.toNat) (k := 7001) (by omega))).mono, B.of (by show 1 < 2 ^ 100000; exact Nat.one_lt_two_pow (by decide)), by omega⟩
  · exact ⟨n.u.mono, hp.pow (by omega), pw0 hp _⟩
def topF (p : Int) (x : Nm) (a b : Int) : Int := a * (valF p x).2 - (valF p x).1 * b
def lowF (p : Int) (x : Nm) (b : Int) : Int := b * (valF p x).2
def hasF (p : Int) (x : Nm) (a b : Int) : Bool := decide (topF p x a b = 0 ∨ endF x ≤ hi p (topF p x a b) - hi p (lowF p x b))
def P_has : List D → Prop
  | [.int p, .tuple [.int u, .int s, .int d], .int a, .int b] => Pp p ∧ Nb (u, s, d) ∧ B 100000 a ∧ B 100000 b ∧ b ≠ 0
  | _ => False
def F_has : List D → D
  | [.int p, .tuple [.int u, .int s, .int d], .int a, .int b] => .bool (hasF p (u, s, d) a b)
  | _ => .none
@[simp] theorem P_has_i {p u s d a b : Int} : P_has [.int p, .tuple [.int u, .int s, .int d], .int a, .int b] ↔ Pp p ∧ Nb (u, s, d) ∧ B 100000 a ∧ B 100000 b ∧ b ≠ 0 := Iff.rfl
@[simp] theorem F_has_i {p u s d a b : Int} : F_has [.int p, .tuple [.int u, .int s, .int d], .int a, .int b] = .bool (hasF p (u, s, d) a b) := rfl
abbrev sp_has : Spc := Fsp P_has F_has
theorem w_has : ∀ ds Q, sp_has ds Q → wS [sp_value_of, sp_minus_fraction, sp_height, sp_end_of] s_has ⟨fun _ => Q .none, Q⟩ (initE N_has.length ds) := by
  rintro ds Q ⟨hp, hq⟩
  match ds, hp with
  | [.int p, .tuple [.int u, .int s, .int d], .int a, .int b], ⟨hp, n, b1, b2, b0⟩ =>
    show wS [sp_value_of, sp_minus_fraction, sp_height, sp_end_of] s_has _ [.sh (.int p), .sh (.tuple [.int u, .int s, .int d]), .sh (.int a), .sh (.int b), .un, .un, .un, .un, .un]
    obtain ⟨v1, v2, v3⟩ := valB hp n
    simp [s_has, hp, n, b1, b2, v1, v2]
    refine ⟨⟨b0, by omega⟩, ?_⟩
    simp [hasF, topF, lowF] at hq
    by_cases h1 : a * (valF p (u, s, d)).2 - (valF p (u, s, d)).1 * b = 0
    · simp [h1] at hq ⊢
      exact hq
    · simp [h1] at hq ⊢
      exact hq
/-! ### plus and what rests on it -/
def plusF (p : Int) (x y : Nm) : Nm := settledF p (x.1 * p ^ (x.2.1 - min x.2.1 y.2.1).toNat + y.1 * p ^ (y.2.1 - min x.2.1 y.2.1).toNat) (min x.2.1 y.2.1) (min (endF x) (endF y))
def P_plus : List D → Prop
  | [.int p, .tuple [.int a, .int b, .int c], .tuple [.int d, .int e, .int f]] => Pp p ∧ Nb (a, b, c) ∧ Nb (d, e, f)
  | _ => False
def F_plus : List D → D
  | [.int p, .tuple [.int a, .int b, .int c], .tuple [.int d, .int e, .int f]] => tri (plusF p (a, b, c) (d, e, f))
  | _ => .none
@[simp] theorem P_plus_i {p a b c d e f : Int} : P_plus [.int p, .tuple [.int a, .int b, .int c], .tuple [.int d, .int e, .int f]] ↔ Pp p ∧ Nb (a, b, c) ∧ Nb (d, e, f) := Iff.rfl
@[simp] theorem F_plus_i {p a b c d e f : Int} : F_plus [.int p, .tuple [.int a, .int b, .int c], .tuple [.int d, .int e, .int f]] = tri (plusF p (a, b, c) (d, e, f)) := rfl
abbrev sp_plus : Spc := Fsp P_plus F_plus
theorem w_plus : ∀ ds Q, sp_plus ds Q → wS [sp_settled, sp_raised, sp_end_of] s_plus ⟨fun _ => Q .none, Q⟩ (initE N_plus.length ds) := by
  rintro ds Q ⟨hp, hq⟩
  match ds, hp with
  | [.int p, .tuple [.int a, .int b, .int c], .tuple [.int d, .int e, .int f]], ⟨hp, n, m⟩ =>
    have n1 := n.s0; have n2 := n.s1; have n3 := n.d0; have n4 := n.d1
    have m1 := m.s0; have m2 := m.s1; have m3 := m.d0; have m4 := m.d1
    simp only at n1 n2 n3 n4 m1 m2 m3 m4
    show wS [sp_settled, sp_raised, sp_end_of] s_plus _ [.sh (.int p), .sh (.tuple [.int a, .int b, .int c]), .sh (.tuple [.int d, .int e, .int f]), .un, .un]
    simp [s_plus, hp]
    refine ⟨⟨by omega, by omega⟩, mulB n.u (hp.pow (n := (b - min b e).toNat) (k := 14001) (by omega)), ⟨by omega, by omega⟩, mulB m.u (hp.pow (n := (e - min b e).toNat) (k := 14001) (by omega)), ?_, ?_⟩
    · unfold endF; simp only; omega
    · simpa [plusF] using hq
def negF (p : Int) (x : Nm) : Nm := settledF p (-x.1) x.2.1 (endF x)
def P_neg : List D → Prop
  | [.int p, .tuple [.int a, .int b, .int c]] => Pp p ∧ Nb (a, b, c)
  | _ => False
def F_neg : List D → D
  | [.int p, .tuple [.int a, .int b, .int c]] => tri (negF p (a, b, c))
  | _ => .none
@[simp] theorem P_neg_i {p a b c : Int} : P_neg [.int p, .tuple [.int a, .int b, .int c]] ↔ Pp p ∧ Nb (a, b, c) := Iff.rfl
@[simp] theorem F_neg_i {p a b c : Int} : F_neg [.int p, .tuple [.int a, .int b, .int c]] = tri (negF p (a, b, c)) := rfl
abbrev sp_negative : Spc := Fsp P_neg F_neg
theorem w_negative : ∀ ds Q, sp_negative ds Q → wS [sp_settled, sp_end_of] s_negative ⟨fun _ => Q .none, Q⟩ (initE N_negative.length ds) := by
  rintro ds Q ⟨hp, hq⟩
  match ds, hp with
  | [.int p, .tuple [.int a, .int b, .int c]], ⟨hp, n⟩ =>
    have n3 := n.d0; have n4 := n.d1
    simp only at n3 n4
    show wS [sp_settled, sp_end_of] s_negative _ [.sh (.int p), .sh (.tuple [.int a, .int b, .int c])]
    simp [s_negative, hp]
    refine ⟨by unfold endF; simp only; omega, by simpa [negF] using hq⟩
def minusF (p : Int) (x y : Nm) : Nm := plusF p x (negF p y)
def P_minus : List D → Prop
  | [.int p, .tuple [.int a, .int b, .int c], .tuple [.int d, .int e, .int f]] => Pp p ∧ Nb (a, b, c) ∧ Nb (d, e, f) ∧ Nb (negF p (d, e, f))
  | _ => False
def F_minus : List D → D
  | [.int p, .tuple [.int a, .int b, .int c], .tuple [.int d, .int e, .int f]] => tri (minusF p (a, b, c) (d, e, f))
  | _ => .none
@[simp] theorem P_minus_i {p a b c d e f : Int} : P_minus [.int p, .tuple [.int a, .int b, .int c], .tuple [.int d, .int e, .int f]] ↔ Pp p ∧ Nb (a, b, c) ∧ Nb (d, e, f) ∧ Nb (negF p (d, e, f)) := Iff.rfl
@[simp] theorem F_minus_i {p a b c d e f : Int} : F_minus [.int p, .tuple [.int a, .int b, .int c], .tuple [.int d, .int e, .int f]] = tri (minusF p (a, b, c) (d, e, f)) := rfl
abbrev sp_minus : Spc := Fsp P_minus F_minus
theorem w_minus : ∀ ds Q, sp_minus ds Q → wS [sp_plus, sp_negative] s_minus ⟨fun _ => Q .none, Q⟩ (initE N_minus.length ds) := by
  rintro ds Q ⟨hp, hq⟩
  match ds, hp with
  | [.int p, .tuple [.int a, .int b, .int c], .tuple [.int d, .int e, .int f]], ⟨hp, n, m, k⟩ =>
    show wS [sp_plus, sp_negative] s_minus _ [.sh (.int p), .sh (.tuple [.int a, .int b, .int c]), .sh (.tuple [.int d, .int e, .int f])]
    simp [s_minus, hp, n, m]
    exact ⟨k, by simpa [minusF] using hq⟩
def timesF (p : Int) (x y : Nm) : Nm := if 0 < min x.2.2 y.2.2 then (x.1 * y.1 % p ^ (min x.2.2 y.2.2).toNat, x.2.1 + y.2.1, min x.2.2 y.2.2) else (0, x.2.1 + y.2.1, 0)
def P_times : List D → Prop
  | [.int p, .tuple [.int a, .int b, .int c], .tuple [.int d, .int e, .int f]] => Pp p ∧ B 9000 a ∧ B 9000 d ∧ c ≤ 400
  | _ => False
def F_times : List D → D
  | [.int p, .tuple [.int a, .int b, .int c], .tuple [.int d, .int e, .int f]] => tri (timesF p (a, b, c) (d, e, f))
  | _ => .none
@[simp] theorem P_times_i {p a b c d e f : Int} : P_times [.int p, .tuple [.int a, .int b, .int c], .tuple [.int d, .int e, .int f]] ↔ Pp p ∧ B 9000 a ∧ B 9000 d ∧ c ≤ 400 := Iff.rfl
@[simp] theorem F_times_i {p a b c d e f : Int} : F_times [.int p, .tuple [.int a, .int b, .int c], .tuple [.int d, .int e, .int f]] = tri (timesF p (a, b, c) (d, e, f)) := rfl
abbrev sp_times : Spc := Fsp P_times F_times
theorem w_times : ∀ ds Q, sp_times ds Q → wS [sp_raised] s_times ⟨fun _ => Q .none, Q⟩ (initE N_times.length ds) := by
  rintro ds Q ⟨hp, hq⟩
  match ds, hp with
  | [.int p, .tuple [.int a, .int b, .int c], .tuple [.int d, .int e, .int f]], ⟨hp, n, m, k⟩ =>
    show wS [sp_raised] s_times _ [.sh (.int p), .sh (.tuple [.int a, .int b, .int c]), .sh (.tuple [.int d, .int e, .int f]), .un, .un]
    simp [s_times, hp, mulB n m]
    simp only [F_times_i, timesF] at hq
    by_cases h1 : 0 < min c f
    · simp only [if_pos h1] at hq
      rw [if_pos (by omega)]
      refine ⟨⟨by omega, by omega⟩, ?_⟩
      rw [bin_mod_pos (pw0 hp _)]
      exact hq
    · simp only [if_neg h1] at hq
      rw [if_neg (by omega)]
      exact hq
end K05

namespace K05
open PySem PySem.Spec PyProof.Rows L2 Mp Nu
/-! ### over, agree, cut, power -/
noncomputable def overF (p : Int) (x y : Nm) : Nm := timesF p x (inv y.1 (p ^ y.2.2.toNat), -y.2.1, y.2.2)
structure Pov (p : Int) (x y : Nm) : Prop where
  pp : Pp p
  a : B 9000 x.1
  c : x.2.2 ≤ 400
  z : Bz y.1 (p ^ y.2.2.toNat)
  d : y.2.2 ≠ 0
  d0 : 0 ≤ y.2.2
  d1 : y.2.2 ≤ 400
def P_over : List D → Prop
  | [.int p, .tuple [.int a, .int b, .int c], .tuple [.int d, .int e, .int f]] => Pov p (a, b, c) (d, e, f)
  | _ => False
noncomputable def F_over : List D → D
  | [.int p, .tuple [.int a, .int b, .int c], .tuple [.int d, .int e, .int f]] => tri (overF p (a, b, c) (d, e, f))
  | _ => .none
@[simp] theorem P_over_i {p a b c d e f : Int} : P_over [.int p, .tuple [.int a, .int b, .int c], .tuple [.int d, .int e, .int f]] ↔ Pov p (a, b, c) (d, e, f) := Iff.rfl
@[simp] theorem F_over_i {p a b c d e f : Int} : F_over [.int p, .tuple [.int a, .int b, .int c], .tuple [.int d, .int e, .int f]] = tri (overF p (a, b, c) (d, e, f)) := rfl
noncomputable abbrev sp_over : Spc := Fsp P_over F_over
theorem w_over : ∀ ds Q, sp_over ds Q → wS [sp_times, sp_back_of, sp_raised] s_over ⟨fun _ => Q .none, Q⟩ (initE N_over.length ds) := by
  rintro ds Q ⟨hp, hq⟩
  match ds, hp with
  | [.int p, .tuple [.int a, .int b, .int c], .tuple [.int d, .int e, .int f]], h =>
    have h : Pov p (a, b, c) (d, e, f) := h
    have d0 := h.d0; have d1 := h.d1; have d2 := h.d; have c1 := h.c; have z := h.z; have b1 := h.a
    simp only at d0 d1 d2 c1 z b1
    show wS [sp_times, sp_back_of, sp_raised] s_over _ [.sh (.int p), .sh (.tuple [.int a, .int b, .int c]), .sh (.tuple [.int d, .int e, .int f]), .un, .un, .un]
    have b9 : B 9000 (p ^ f.toNat) := h.pp.pow (by omega)
    simp [s_over, h.pp, d2, z, b1, c1, inv_B z (pw0 h.pp _) b9, pw0 h.pp, b9]
    exact ⟨⟨by omega, by omega⟩, by simpa [overF] using hq⟩
def P_agree : List D → Prop := P_minus
def F_agree : List D → D
  | [.int p, .tuple [.int a, .int b, .int c], .tuple [.int d, .int e, .int f]] => .bool (decide ((minusF p (a, b, c) (d, e, f)).2.2 = 0))
  | _ => .none
@[simp] theorem P_agree_i {p a b c d e f : Int} : P_agree [.int p, .tuple [.int a, .int b, .int c], .tuple [.int d, .int e, .int f]] ↔ Pp p ∧ Nb (a, b, c) ∧ Nb (d, e, f) ∧ Nb (negF p (d, e, f)) := Iff.rfl
@[simp] theorem F_agree_i {p a b c d e f : Int} : F_agree [.int p, .tuple [.int a, .int b, .int c], .tuple [.int d, .int e, .int f]] = .bool (decide ((minusF p (a, b, c) (d, e, f)).2.2 = 0)) := rfl
abbrev sp_agree : Spc := Fsp P_agree F_agree
theorem w_agree : ∀ ds Q, sp_agree ds Q → wS [sp_minus] s_agree ⟨fun _ => Q .none, Q⟩ (initE N_agree.length ds) := by
  rintro ds Q ⟨hp, hq⟩
  match ds, hp with
  | [.int p, .tuple [.int a, .int b, .int c], .tuple [.int d, .int e, .int f]], ⟨hp, n, m, k⟩ =>
    show wS [sp_minus] s_agree _ [.sh (.int p), .sh (.tuple [.int a, .int b, .int c]), .sh (.tuple [.int d, .int e, .int f])]
    simp [s_agree, hp, n, m, k]
    exact hq
def cutF (p : Int) (x : Nm) (e : Int) : Nm := settledF p x.1 x.2.1 e
def P_cut : List D → Prop
  | [.int p, .tuple [.int a, .int b, .int c], .int e] => Pp p ∧ e - b < 2 ^ 62
  | _ => False
def F_cut : List D → D
  | [.int p, .tuple [.int a, .int b, .int c], .int e] => tri (cutF p (a, b, c) e)
  | _ => .none
@[simp] theorem P_cut_i {p a b c e : Int} : P_cut [.int p, .tuple [.int a, .int b, .int c], .int e] ↔ Pp p ∧ e - b < 2 ^ 62 := Iff.rfl
@[simp] theorem F_cut_i {p a b c e : Int} : F_cut [.int p, .tuple [.int a, .int b, .int c], .int e] = tri (cutF p (a, b, c) e) := rfl
abbrev sp_cut : Spc := Fsp P_cut F_cut
theorem w_cut : ∀ ds Q, sp_cut ds Q → wS [sp_settled] s_cut ⟨fun _ => Q .none, Q⟩ (initE N_cut.length ds) := by
  rintro ds Q ⟨hp, hq⟩
  match ds, hp with
  | [.int p, .tuple [.int a, .int b, .int c], .int e], ⟨hp, n⟩ =>
    show wS [sp_settled] s_cut _ [.sh (.int p), .sh (.tuple [.int a, .int b, .int c]), .sh (.int e)]
    simp [s_cut, hp]
    exact ⟨n, hq⟩
/-- so many times more -/
def powF (f : Nm → Nm) (x : Nm) : Nat → Nm
  | 0 => x
  | n + 1 => f (powF f x n)
theorem times_B {p : Int} {x y : Nm} (hp : Pp p) (hc : x.2.2 ≤ 400) : B 9000 (timesF p x y).1 ∧ (timesF p x y).2.2 ≤ 400 := by
  unfold timesF
  split
  · exact ⟨B.emod (hp.pow (by omega)) (pw0 hp _), by simp only; omega⟩
  · exact ⟨Nat.pow_pos (by decide), by simp only; omega⟩
theorem pow_B {p : Int} {x : Nm} (hp : Pp p) (hb : B 9000 x.1) (hc : x.2.2 ≤ 400) : ∀ n, B 9000 (powF (fun t => timesF p t x) x n).1 ∧ (powF (fun t => timesF p t x) x n).2.2 ≤ 400
  | 0 => ⟨hb, hc⟩
  | n + 1 => times_B hp (pow_B hp hb hc n).2
def P_power : List D → Prop
  | [.int p, .tuple [.int a, .int b, .int c], .int n] => Pp p ∧ B 9000 a ∧ c ≤ 400 ∧ 0 ≤ n ∧ n ≤ 1000
  | _ => False
def F_power : List D → D
  | [.int p, .tuple [.int a, .int b, .int c], .int n] => tri (powF (fun t => timesF p t (a, b, c)) (a, b, c) (n - 1).toNat)
  | _ => .none
@[simp] theorem P_power_i {p a b c n : Int} : P_power [.int p, .tuple [.int a, .int b, .int c], .int n] ↔ Pp p ∧ B 9000 a ∧ c ≤ 400 ∧ 0 ≤ n ∧ n ≤ 1000 := Iff.rfl
@[simp] theorem F_power_i {p a b c n : Int} : F_power [.int p, .tuple [.int a, .int b, .int c], .int n] = tri (powF (fun t => timesF p t (a, b, c)) (a, b, c) (n - 1).toNat) := rfl
abbrev sp_power : Spc := Fsp P_power F_power
theorem w_power : ∀ ds Q, sp_power ds Q → wS [sp_times] s_power ⟨fun _ => Q .none, Q⟩ (initE N_power.length ds) := by
  rintro ds Q ⟨hp, hq⟩
  match ds, hp with
  | [.int p, .tuple [.int a, .int b, .int c], .int n], ⟨hp, hb, hc, n0, n1⟩ =>
    show wS [sp_times] s_power _ [.sh (.int p), .sh (.tuple [.int a, .int b, .int c]), .sh (.int n), .un, .un]
    simp only [s_power, wS_seq, wS_set, wE_int, wS_for, wI_rng1, wE_var, wE_bin, bin_sub, List.set_cons_succ, List.set_cons_zero, List.getElem?_cons_succ, List.getElem?_cons_zero]
    refine ⟨_, rfl, ⟨by omega, by omega⟩, for_rng (fun k ρ => ∃ z, ρ = [.sh (.int p), .sh (.tuple [.int a, .int b, .int c]), .sh (.int n), .sh (tri (powF (fun t => timesF p t (a, b, c)) (a, b, c) k)), z]) ⟨_, rfl⟩ ?_ ?_⟩
    · rintro k ρ R hk ⟨z, rfl⟩ hR
      obtain ⟨b1, b2⟩ := pow_B (x := (a, b, c)) hp hb hc k
      simp [hp, hb, b1, b2]
      exact hR _ ⟨_, rfl⟩
    · rintro ρ ⟨z, rfl⟩
      simpa using hq
/-! ### the law's own -/
theorem w_law_power : ∀ ds Q, sp_raised ds Q → wS [] s_law_power ⟨fun _ => Q .none, Q⟩ (initE N_law_power.length ds) := w_raised
def F_high : List D → D
  | [.int p, .int a] => .int (hi p a)
  | _ => .none
@[simp] theorem F_high_i {p a : Int} : F_high [.int p, .int a] = .int (hi p a) := rfl
abbrev sp_law_high : Spc := Fsp P_dout F_high
theorem w_law_high : ∀ ds Q, sp_law_high ds Q → wS [] s_law_high ⟨fun _ => Q .none, Q⟩ (initE N_law_high.length ds) := by
  rintro ds Q ⟨hp, hq⟩
  match ds, hp with
  | [.int p, .int a], ⟨hp, ha⟩ =>
    show wS [] s_law_high _ [.sh (.int p), .sh (.int a), .un]
    simp only [s_law_high, wS_seq, wS_set, wE_int, List.set_cons_succ, List.set_cons_zero]
    refine whl_rule (fun m ρ => ∃ (b : Int) (t : Nat), ρ = [.sh (.int p), .sh (.int b), .sh (.int t)] ∧ b ≠ 0 ∧ m = b.natAbs ∧ t + hi p b = hi p a) _ ⟨a, 0, rfl, ha, rfl, by omega⟩ ?_
    rintro m ρ ⟨b, t, rfl, hb, rfl, ht⟩
    have h0 : 0 < p := by have := hp.1; omega
    simp [bin_mod_pos h0, bin_fdiv_pos h0]
    by_cases hd : p ∣ b
    · rw [if_pos (Int.emod_eq_zero_of_dvd hd)]
      obtain ⟨s1, s2, s3⟩ := hi_step hp.1 hb hd
      exact ⟨hp.log, _, s3, b / p, t + 1, ⟨rfl, by omega⟩, s2, rfl, by omega⟩
    · rw [if_neg fun z => hd (Int.dvd_of_emod_eq_zero z)]
      have z := hi_zero hp.1 hd
      have e2 : hi p a = t := by omega
      rw [F_high_i, e2] at hq
      exact hq
noncomputable def lmF (p a b e : Int) : Nm := if a = 0 ∨ e ≤ hi p a - hi p b then (0, e, 0) else
  (a / p ^ hi p a * inv (b / p ^ hi p b) (p ^ (e - (hi p a - hi p b)).toNat) % p ^ (e - (hi p a - hi p b)).toNat, hi p a - hi p b, e - (hi p a - hi p b))
noncomputable def F_lm : List D → D
  | [.int p, .int a, .int b, .int e] => tri (lmF p a b e)
  | _ => .none
@[simp] theorem F_lm_i {p w s e : Int} : F_lm [.int p, .int w, .int s, .int e] = tri (lmF p w s e) := rfl
noncomputable abbrev sp_law_made : Spc := Fsp P_made F_lm
theorem w_law_made : ∀ ds Q, sp_law_made ds Q → wS [sp_raised, sp_law_high, sp_law_back] s_law_made ⟨fun _ => Q .none, Q⟩ (initE N_law_made.length ds) := by
  rintro ds Q ⟨hp, hq⟩
  match ds, hp with
  | [.int p, .int a, .int b, .int e], h =>
    have h : Pmd p a b e := h
    show wS [sp_raised, sp_law_high, sp_law_back] s_law_made _ [.sh (.int p), .sh (.int a), .sh (.int b), .sh (.int e), .un, .un, .un, .un]
    have pp := Pr.pp h.pr
    simp [s_law_made, pp, h.b0]
    simp [lmF] at hq
    by_cases h1 : a = 0
    · simp [h1] at hq ⊢
      exact hq
    · simp [h1] at hq ⊢
      by_cases h2 : e ≤ hi p a - hi p b
      · simp [h2] at hq ⊢
        exact hq
      · simp [h2] at hq ⊢
        have h3 := h.he h1
        have h4 := h.hb
        have h5 := h.hbe
        have b9 : B 9000 (p ^ (e - (hi p a - hi p b)).toNat) := pp.pow (by omega)
        have bz := h.bz (e - (hi p a - hi p b)).toNat
        simp [bin_fdiv_pos (pw0 pp (hi p a)), bin_fdiv_pos (pw0 pp (hi p b)), bin_mod_pos (pw0 pp (e - (hi p a - hi p b)).toNat), -Int.natAbs_pow]
        refine ⟨⟨by omega, by omega⟩, by omega, B.log (pp.pow (by omega)), by omega, B.log (pp.pow (by omega)), ⟨bz, pw0 pp _, b9⟩, mulB (h.a1.ediv) (inv_B bz (pw0 pp _) b9), hq⟩
end K05

namespace K05
open PySem PySem.Spec PyProof.Rows L2 Mp Nu
/-! ### fractions -/
def fracF (p : Int) (x : Nm) (m : Int) : Int × Int := (x.1 * p ^ (max 0 x.2.1).toNat * p ^ (max 0 (0 - endF x)).toNat + m * p ^ (max 0 (endF x)).toNat * p ^ (max 0 (0 - x.2.1)).toNat, p ^ (max 0 (0 - x.2.1)).toNat * p ^ (max 0 (0 - endF x)).toNat)
def P_frac : List D → Prop
  | [.int p, .tuple [.int a, .int b, .int c], .int m] => Pp p ∧ Nb (a, b, c) ∧ B 10 m
  | _ => False
def F_frac : List D → D
  | [.int p, .tuple [.int a, .int b, .int c], .int m] => .tuple [.int (fracF p (a, b, c) m).1, .int (fracF p (a, b, c) m).2]
  | _ => .none
@[simp] theorem P_frac_i {p a b c m : Int} : P_frac [.int p, .tuple [.int a, .int b, .int c], .int m] ↔ Pp p ∧ Nb (a, b, c) ∧ B 10 m := Iff.rfl
@[simp] theorem F_frac_i {p a b c m : Int} : F_frac [.int p, .tuple [.int a, .int b, .int c], .int m] = .tuple [.int (fracF p (a, b, c) m).1, .int (fracF p (a, b, c) m).2] := rfl
abbrev sp_law_fraction : Spc := Fsp P_frac F_frac
theorem fracB {p : Int} {x : Nm} {m : Int} (hp : Pp p) (n : Nb x) (hm : B 10 m) : B 40000 (fracF p x m).1 ∧ B 40000 (fracF p x m).2 ∧ 0 < (fracF p x m).2 := by
  have n1 := n.s0; have n2 := n.s1; have n3 := n.d0; have n4 := n.d1
  have e1 : endF x = x.2.1 + x.2.2 := rfl
  have q1 := hp.pow (n := (max 0 x.2.1).toNat) (k := 7001) (by omega)
  have q2 := hp.pow (n := (max 0 (0 - x.2.1)).toNat) (k := 7001) (by omega)
  have q3 := hp.pow (n := (max 0 (endF x)).toNat) (k := 9801) (by omega)
  have q4 := hp.pow (n := (max 0 (0 - endF x)).toNat) (k := 9801) (by omega)
  refine ⟨((((n.u.mul q1).mul q4).mono (l := 30000)).add (((hm.mul q3).mul q2).mono (l := 30000))).mono, (q2.mul q4).mono, Int.mul_pos (pw0 hp _) (pw0 hp _)⟩
theorem w_law_fraction : ∀ ds Q, sp_law_fraction ds Q → wS [sp_law_end, sp_raised] s_law_fraction ⟨fun _ => Q .none, Q⟩ (initE N_law_fraction.length ds) := by
  rintro ds Q ⟨hp, hq⟩
  match ds, hp with
  | [.int p, .tuple [.int a, .int b, .int c], .int m], ⟨hp, n, hm⟩ =>
    have n1 := n.s0; have n2 := n.s1; have n3 := n.d0; have n4 := n.d1; have nu := n.u
    have e1 : endF (a, b, c) = b + c := rfl
    simp only at n1 n2 n3 n4 nu
    show wS [sp_law_end, sp_raised] s_law_fraction _ [.sh (.int p), .sh (.tuple [.int a, .int b, .int c]), .sh (.int m), .un, .un, .un, .un, .un]
    have q1 := hp.pow (n := (max 0 b).toNat) (k := 7001) (by omega)
    have q2 := hp.pow (n := (max 0 (0 - b)).toNat) (k := 7001) (by omega)
    have q3 := hp.pow (n := (max 0 (endF (a, b, c))).toNat) (k := 9801) (by omega)
    have q4 := hp.pow (n := (max 0 (0 - endF (a, b, c))).toNat) (k := 9801) (by omega)
    simp only [s_law_fraction, wS_seq]
    simp [hp, mulB nu q1, mulB hm q3, mulB (nu.mul q1) q4, mulB (hm.mul q3) q2, mulB q2 q4, -Int.zero_sub]
    simp [fracF, -Int.zero_sub] at hq
    refine ⟨⟨by omega, by omega⟩, ⟨by omega, by omega⟩, ⟨by omega, by omega⟩, ⟨by omega, by omega⟩, hq⟩
def restF (p : Int) (x : Nm) (a b : Int) : Int := a * (fracF p x 0).2 - (fracF p x 0).1 * b
def lhasF (p : Int) (x : Nm) (a b : Int) : Bool := decide (restF p x a b = 0 ∨ endF x ≤ hi p (restF p x a b) - hi p (b * (fracF p x 0).2))
def F_lhas : List D → D
  | [.int p, .tuple [.int u, .int s, .int d], .int a, .int b] => .bool (lhasF p (u, s, d) a b)
  | _ => .none
@[simp] theorem F_lhas_i {p u s d a b : Int} : F_lhas [.int p, .tuple [.int u, .int s, .int d], .int a, .int b] = .bool (lhasF p (u, s, d) a b) := rfl
abbrev sp_law_has : Spc := Fsp P_has F_lhas
theorem w_law_has : ∀ ds Q, sp_law_has ds Q → wS [sp_law_fraction, sp_law_end, sp_law_high] s_law_has ⟨fun _ => Q .none, Q⟩ (initE N_law_has.length ds) := by
  rintro ds Q ⟨hp, hq⟩
  match ds, hp with
  | [.int p, .tuple [.int u, .int s, .int d], .int a, .int b], ⟨hp, n, b1, b2, b0⟩ =>
    show wS [sp_law_fraction, sp_law_end, sp_law_high] s_law_has _ [.sh (.int p), .sh (.tuple [.int u, .int s, .int d]), .sh (.int a), .sh (.int b), .un, .un, .un]
    have hz : B 10 0 := Nat.pow_pos (by decide)
    obtain ⟨v1, v2, v3⟩ := fracB hp n hz
    simp [s_law_has, hp, n, hz, mulB b1 v2, mulB v1 b2]
    simp [lhasF, restF] at hq
    by_cases h1 : a * (fracF p (u, s, d) 0).2 - (fracF p (u, s, d) 0).1 * b = 0
    · simp [h1] at hq ⊢
      exact hq
    · simp [h1, mulB b2 v2] at hq ⊢
      exact ⟨⟨b0, by omega⟩, hq⟩
/-! ### what is drawn -/
def P_pick : List D → Prop
  | [s, .list xs] => s = stTok ∧ xs ≠ [] ∧ xs.length ≤ 1000
  | _ => False
def R_pick : List D → D → Prop
  | [_, .list xs], d => d ∈ xs
  | _, _ => False
@[simp] theorem P_pick_i {s : D} {xs : List D} : P_pick [s, .list xs] ↔ s = stTok ∧ xs ≠ [] ∧ xs.length ≤ 1000 := Iff.rfl
@[simp] theorem R_pick_i {s d : D} {xs : List D} : R_pick [s, .list xs] d ↔ d ∈ xs := Iff.rfl
abbrev sp_law_pick : Spc := Nsp P_pick R_pick
theorem w_law_pick : ∀ ds Q, sp_law_pick ds Q → wS [spDraw] s_law_pick ⟨fun _ => Q .none, Q⟩ (initE N_law_pick.length ds) := by
  rintro ds Q ⟨hp, hq⟩
  match ds, hp with
  | [s, .list xs], ⟨hs, h1, h2⟩ =>
    subst hs
    show wS [spDraw] s_law_pick _ [.sh stTok, .sh (.list xs)]
    simp [s_law_pick]
    have h3 : 0 < xs.length := List.length_pos_iff.mpr h1
    refine ⟨⟨h3, small_log (n := (xs.length : Int)) (by omega)⟩, fun v v0 v1 => ?_⟩
    obtain ⟨n, rfl⟩ := Int.eq_ofNat_of_zero_le v0
    have hn : n < xs.length := by omega
    rw [ix_nat (List.getElem?_eq_getElem hn)]
    exact hq _ (List.getElem_mem hn)
/-- a number as it is drawn -/
structure Vn (p : Int) (x : Nm) : Prop where
  s0 : -100 ≤ x.2.1
  s1 : x.2.1 ≤ 100
  d0 : 0 ≤ x.2.2
  d1 : x.2.2 ≤ 200
  e1 : x.2.1 + x.2.2 ≤ 160
  z : x.2.2 = 0 → x.1 = 0
  u : 0 < x.2.2 → 0 < x.1 ∧ x.1 < p ^ x.2.2.toNat ∧ ¬ p ∣ x.1
def P_num : List D → Prop
  | [s, .int p] => s = stTok ∧ Pp p
  | _ => False
def R_num : List D → Nm → Prop
  | [_, .int p], x => Vn p x
  | _, _ => False
@[simp] theorem P_num_i {s : D} {p : Int} : P_num [s, .int p] ↔ s = stTok ∧ Pp p := Iff.rfl
@[simp] theorem R_num_i {s : D} {p : Int} {x : Nm} : R_num [s, .int p] x ↔ Vn p x := Iff.rfl
abbrev sp_law_number : Spc := Asp P_num tri R_num
theorem w_law_number : ∀ ds Q, sp_law_number ds Q → wS [sp_law_pick, spDraw, sp_raised] s_law_number ⟨fun _ => Q .none, Q⟩ (initE N_law_number.length ds) := by
  rintro ds Q ⟨hp, hq⟩
  match ds, hp with
  | [s, .int p], ⟨hs, hp⟩ =>
    subst hs
    have hq : ∀ x : Nm, Vn p x → Q (tri x) := fun x h => hq x h
    show wS [sp_law_pick, spDraw, sp_raised] s_law_number _ [.sh stTok, .sh (.int p), .un, .un, .un]
    simp [s_law_number, -List.mem_cons, -List.forall_mem_cons]
    intro d hd
    obtain ⟨m, rfl, hm, hm2⟩ : ∃ m : Int, d = .int m ∧ 2 ≤ m ∧ m ≤ 60 := by
      simp at hd
      rcases hd with rfl | rfl | rfl
      · exact ⟨_, rfl, by omega, by omega⟩
      · exact ⟨_, rfl, by omega, by omega⟩
      · exact ⟨_, rfl, by omega, by omega⟩
    simp [-List.mem_cons, -List.forall_mem_cons, bin_mod_pos (pp0 hp), hp]
    refine ⟨⟨by omega, small_log (by omega)⟩, fun a a0 a1 => ⟨small_log (n := 9) (by decide), fun b b0 b1 => ⟨small_log (n := 201) (by decide), fun c c0 c1 d hd => ⟨small_log (n := 6) (by decide), fun k k0 k1 => ?_⟩⟩⟩⟩
    obtain ⟨s, rfl, s0, s1⟩ : ∃ s : Int, d = .int s ∧ -100 ≤ s ∧ s ≤ 100 := by
      simp at hd
      rcases hd with rfl | rfl | rfl
      · exact ⟨_, rfl, by omega, by omega⟩
      · exact ⟨_, rfl, by omega, by omega⟩
      · exact ⟨_, rfl, by omega, by omega⟩
    by_cases hk : k = 0
    · rw [if_pos hk]
      exact hq (0, s, 0) ⟨s0, s1, by simp, by simp, by simp only; omega, fun _ => rfl, fun h => by simp at h⟩
    · rw [if_neg hk]
      have e1 : p ^ (1 + a).toNat = p ^ a.toNat * p := by rw [show (1 + a).toNat = a.toNat + 1 by omega, Int.pow_succ]
      have e2 := pw0 hp a.toNat
      have e3 : p ^ a.toNat * 2 ≤ p ^ a.toNat * p := Int.mul_le_mul_of_nonneg_left hp.1 (by omega)
      have b9 : B 9000 (p ^ (1 + a).toNat) := hp.pow (by omega)
      refine ⟨⟨by omega, by omega⟩, ⟨by omega, B.log (B.le (by omega) b9)⟩, fun v v0 v1 => ?_⟩
      have nx : ¬ (1 + v) % p = 0 → Vn p (1 + v, s, 1 + a) := fun h => ⟨s0, s1, by simp only; omega, by simp only; omega, by simp only; omega, fun z => by simp only at z; omega, fun _ => ⟨by simp only; omega, by simp only; omega, fun z => h (Int.emod_eq_zero_of_dvd z)⟩⟩
      by_cases hz : (1 + v) % p = 0
      · simp [hz]
        have hd := Int.dvd_of_emod_eq_zero hz
        have nd : ¬ p ∣ 1 + v + 1 := fun z => by
          have h1 : p ∣ 1 := by
            have := Int.dvd_sub z hd
            rwa [show 1 + v + 1 - (1 + v) = 1 by omega] at this
          have := Int.le_of_dvd (by omega) h1
          have := hp.1
          omega
        have nl : ¬ p ^ (1 + a).toNat ≤ 1 + v + 1 := fun z => nd (by
          have : 1 + v + 1 = p ^ (1 + a).toNat := by omega
          rw [this, e1]
          exact Int.dvd_mul_left _ _)
        rw [if_neg nl]
        have e4 : 1 + v + 1 - p * 0 = 1 + v + 1 := by omega
        rw [e4]
        exact ⟨⟨by omega, by omega⟩, mulR (by decide), hq (1 + v + 1, s, 1 + a) ⟨s0, s1, by simp only; omega, by simp only; omega, by simp only; omega, fun z => by simp only at z; omega, fun _ => ⟨by simp only; omega, by simp only; omega, nd⟩⟩⟩
      · simp [hz]
        exact hq _ (nx hz)
def lsumF_A (p : Int) (x y : Nm) (g : Int) : Int := (fracF p x 0).1 * (fracF p y 0).2 + g * (fracF p y 0).1 * (fracF p x 0).2
def lsumF_B (p : Int) (x y : Nm) : Int := (fracF p x 0).2 * (fracF p y 0).2
structure Psum (p : Int) (x y : Nm) (g : Int) : Prop where
  pp : Pp p
  nx : Nb x
  ny : Nb y
  hg : g = 1 ∨ g = -1
  m : Pmd p (lsumF_A p x y g) (lsumF_B p x y) (min (endF x) (endF y))
noncomputable def lsumF (p : Int) (x y : Nm) (g : Int) : Nm := lmF p (lsumF_A p x y g) (lsumF_B p x y) (min (endF x) (endF y))
def P_sum : List D → Prop
  | [.int p, .tuple [.int a, .int b, .int c], .tuple [.int d, .int e, .int f], .int g] => Psum p (a, b, c) (d, e, f) g
  | _ => False
noncomputable def F_sum : List D → D
  | [.int p, .tuple [.int a, .int b, .int c], .tuple [.int d, .int e, .int f], .int g] => tri (lsumF p (a, b, c) (d, e, f) g)
  | _ => .none
@[simp] theorem P_sum_i {p a b c d e f g : Int} : P_sum [.int p, .tuple [.int a, .int b, .int c], .tuple [.int d, .int e, .int f], .int g] ↔ Psum p (a, b, c) (d, e, f) g := Iff.rfl
@[simp] theorem F_sum_i {p a b c d e f g : Int} : F_sum [.int p, .tuple [.int a, .int b, .int c], .tuple [.int d, .int e, .int f], .int g] = tri (lsumF p (a, b, c) (d, e, f) g) := rfl
noncomputable abbrev sp_law_sum : Spc := Fsp P_sum F_sum
theorem w_law_sum : ∀ ds Q, sp_law_sum ds Q → wS [sp_law_made, sp_law_end, sp_law_fraction] s_law_sum ⟨fun _ => Q .none, Q⟩ (initE N_law_sum.length ds) := by
  rintro ds Q ⟨hp, hq⟩
  match ds, hp with
  | [.int p, .tuple [.int a, .int b, .int c], .tuple [.int d, .int e, .int f], .int g], h =>
    have h : Psum p (a, b, c) (d, e, f) g := h
    show wS [sp_law_made, sp_law_end, sp_law_fraction] s_law_sum _ [.sh (.int p), .sh (.tuple [.int a, .int b, .int c]), .sh (.tuple [.int d, .int e, .int f]), .sh (.int g), .un, .un, .un, .un, .un]
    have hz : B 10 0 := Nat.pow_pos (by decide)
    obtain ⟨v1, v2, v3⟩ := fracB h.pp h.nx hz
    obtain ⟨u1, u2, u3⟩ := fracB h.pp h.ny hz
    have g1 : g.natAbs < 2 ^ 1 := by have := h.hg; omega
    have g2 : B 1 g := g1
    simp [s_law_sum, h.pp, h.nx, h.ny, hz, mulB v1 u2, mulB g2 u1, mulB (g2.mul u1) v2, mulB v2 u2]
    exact ⟨h.m, by simpa [lsumF, lsumF_A, lsumF_B] using hq⟩
def lprodF (p : Int) (x y : Nm) : Nm := if x.2.2 = 0 ∨ y.2.2 = 0 then (0, x.2.1 + y.2.1, 0) else (x.1 * y.1 % p ^ (min x.2.2 y.2.2).toNat, x.2.1 + y.2.1, min x.2.2 y.2.2)
def P_prod : List D → Prop
  | [.int p, .tuple [.int a, .int b, .int c], .tuple [.int d, .int e, .int f]] => Pp p ∧ B 9000 a ∧ B 9000 d ∧ 0 ≤ c ∧ 0 ≤ f ∧ c ≤ 400
  | _ => False
def F_prod : List D → D
  | [.int p, .tuple [.int a, .int b, .int c], .tuple [.int d, .int e, .int f]] => tri (lprodF p (a, b, c) (d, e, f))
  | _ => .none
@[simp] theorem P_prod_i {p a b c d e f : Int} : P_prod [.int p, .tuple [.int a, .int b, .int c], .tuple [.int d, .int e, .int f]] ↔ Pp p ∧ B 9000 a ∧ B 9000 d ∧ 0 ≤ c ∧ 0 ≤ f ∧ c ≤ 400 := Iff.rfl
@[simp] theorem F_prod_i {p a b c d e f : Int} : F_prod [.int p, .tuple [.int a, .int b, .int c], .tuple [.int d, .int e, .int f]] = tri (lprodF p (a, b, c) (d, e, f)) := rfl
abbrev sp_law_product : Spc := Fsp P_prod F_prod
theorem w_law_product : ∀ ds Q, sp_law_product ds Q → wS [sp_raised] s_law_product ⟨fun _ => Q .none, Q⟩ (initE N_law_product.length ds) := by
  rintro ds Q ⟨hp, hq⟩
  match ds, hp with
  | [.int p, .tuple [.int a, .int b, .int c], .tuple [.int d, .int e, .int f]], ⟨hp, n, m, c0, f0, c1⟩ =>
    show wS [sp_raised] s_law_product _ [.sh (.int p), .sh (.tuple [.int a, .int b, .int c]), .sh (.tuple [.int d, .int e, .int f]), .un]
    simp [s_law_product, hp, mulB n m, bin_mod_pos (pw0 hp (min c f).toNat)]
    simp [lprodF] at hq
    by_cases h1 : c = 0
    · simp [h1] at hq ⊢
      exact hq
    · by_cases h2 : f = 0
      · simp [h1, h2] at hq ⊢
        exact hq
      · simp [h1, h2] at hq ⊢
        exact ⟨⟨by omega, by omega⟩, hq⟩
noncomputable def lquoF (p : Int) (x y : Nm) : Nm := if x.2.2 = 0 then (0, x.2.1 - y.2.1, 0) else (x.1 * inv y.1 (p ^ (min x.2.2 y.2.2).toNat) % p ^ (min x.2.2 y.2.2).toNat, x.2.1 - y.2.1, min x.2.2 y.2.2)
structure Pquo (p : Int) (x y : Nm) : Prop where
  pp : Pp p
  a : B 9000 x.1
  z : Bz y.1 (p ^ (min x.2.2 y.2.2).toNat)
  c1 : x.2.2 ≤ 400
  c0 : 0 ≤ x.2.2
  f0 : 0 ≤ y.2.2
def P_quo : List D → Prop
  | [.int p, .tuple [.int a, .int b, .int c], .tuple [.int d, .int e, .int f]] => Pquo p (a, b, c) (d, e, f)
  | _ => False
noncomputable def F_quo : List D → D
  | [.int p, .tuple [.int a, .int b, .int c], .tuple [.int d, .int e, .int f]] => tri (lquoF p (a, b, c) (d, e, f))
  | _ => .none
@[simp] theorem P_quo_i {p a b c d e f : Int} : P_quo [.int p, .tuple [.int a, .int b, .int c], .tuple [.int d, .int e, .int f]] ↔ Pquo p (a, b, c) (d, e, f) := Iff.rfl
@[simp] theorem F_quo_i {p a b c d e f : Int} : F_quo [.int p, .tuple [.int a, .int b, .int c], .tuple [.int d, .int e, .int f]] = tri (lquoF p (a, b, c) (d, e, f)) := rfl
noncomputable abbrev sp_law_quotient : Spc := Fsp P_quo F_quo
theorem w_law_quotient : ∀ ds Q, sp_law_quotient ds Q → wS [sp_raised, sp_law_back] s_law_quotient ⟨fun _ => Q .none, Q⟩ (initE N_law_quotient.length ds) := by
  rintro ds Q ⟨hp, hq⟩
  match ds, hp with
  | [.int p, .tuple [.int a, .int b, .int c], .tuple [.int d, .int e, .int f]], h =>
    have h : Pquo p (a, b, c) (d, e, f) := h
    have z := h.z; have c1 := h.c1; have b1 := h.a; have c0 := h.c0; have f0 := h.f0
    simp only at z c1 b1 c0 f0
    show wS [sp_raised, sp_law_back] s_law_quotient _ [.sh (.int p), .sh (.tuple [.int a, .int b, .int c]), .sh (.tuple [.int d, .int e, .int f]), .un]
    have b9 : B 9000 (p ^ (min c f).toNat) := h.pp.pow (by omega)
    simp [s_law_quotient, h.pp, bin_mod_pos (pw0 h.pp (min c f).toNat), z, b9, pw0 h.pp, mulB b1 (inv_B z (pw0 h.pp _) b9)]
    simp [lquoF] at hq
    by_cases h1 : c = 0
    · simp [h1] at hq ⊢
      exact hq
    · simp [h1] at hq ⊢
      exact ⟨⟨by omega, by omega⟩, hq⟩
end K05

namespace K05
open PySem Mp Nu
section
variable {p : Int}
theorem hi_mul (hp : 2 ≤ p) (k : Nat) {a : Int} (ha : a ≠ 0) : hi p (p ^ k * a) = k + hi p a := by
  obtain ⟨u, e, hu⟩ := hi_spec hp ha
  have : p ^ k * a = p ^ (k + hi p a) * u := by rw [Int.pow_add, Int.mul_assoc, ← e]
  rw [this]
  exact hi_eq hp _ hu
theorem nd1 (hp : 2 ≤ p) : ¬ p ∣ 1 := fun z => by have := Int.le_of_dvd (by omega) z; omega
theorem hi_pow (hp : 2 ≤ p) (k : Nat) : hi p (p ^ k) = k := by
  have := hi_eq hp k (nd1 hp)
  rwa [Int.mul_one] at this
theorem hi_neg (hp : 2 ≤ p) {a : Int} : hi p (-a) = hi p a := by
  by_cases ha : a = 0
  · rw [ha]; rfl
  · obtain ⟨u, e, hu⟩ := hi_spec hp ha
    have : -a = p ^ hi p a * (-u) := by rw [Int.mul_neg, ← e]
    conv => lhs; rw [this]
    exact hi_eq hp _ fun z => hu (Int.dvd_neg.mp z)
theorem pne (hp : 2 ≤ p) (k : Nat) : p ^ k ≠ 0 := by have := Nu.pow_pos hp k; omega
theorem inv1 {m : Int} (hm : 0 < m) (x : Int) : x * inv 1 m % m = x % m := by
  rw [inv_mod (t := 1) hm (by simp), Int.mul_emod, Int.emod_emod, ← Int.mul_emod, Int.mul_one]
/-- of a lower number that is a power -/
theorem lm_pow (hp : 2 ≤ p) (A : Int) (j : Nat) (e : Int) : lmF p A (p ^ j) e = if A = 0 ∨ e ≤ hi p A - j then (0, e, 0) else ((A / p ^ hi p A) % p ^ (e - (hi p A - j)).toNat, hi p A - j, e - (hi p A - j)) := by
  unfold lmF
  rw [hi_pow hp, Int.ediv_self (pne hp j), inv1 (Nu.pow_pos hp _)]
theorem settled_lm (hp : 2 ≤ p) {w A s e : Int} {j n : Nat} (hn : (n : Int) = s + j) (hA : A = p ^ n * w) : settledF p w s e = lmF p A (p ^ j) e := by
  rw [lm_pow hp]
  unfold settledF
  by_cases hw : w = 0
  · have : A = 0 := by rw [hA, hw, Int.mul_zero]
    rw [if_pos (Or.inl this)]
    split
    · rfl
    · rw [if_pos (by rw [hw, Int.zero_emod])]
  · have hA0 : A ≠ 0 := by rw [hA]; exact Int.mul_ne_zero (pne hp n) hw
    have hh : hi p A = n + hi p w := by rw [hA]; exact hi_mul hp n hw
    obtain ⟨u, eu, hu⟩ := hi_spec hp hw
    have hAd : A / p ^ hi p A = u := by
      have : A = p ^ hi p A * u := by rw [hh, Int.pow_add, Int.mul_assoc, ← eu, ← hA]
      conv => lhs; arg 1; rw [this]
      exact Int.mul_ediv_cancel_left _ (pne hp _)
    by_cases h1 : e ≤ s
    · rw [if_pos h1, if_pos (.inr (by omega))]
    · rw [if_neg h1]
      by_cases h2 : e ≤ hi p A - j
      · rw [if_pos (show A = 0 ∨ e ≤ hi p A - j from .inr h2), if_pos (show w % p ^ (e - s).toNat = 0 from Int.emod_eq_zero_of_dvd ((hi_dvd hp hw _).mp (by omega)))]
      · rw [if_neg (show ¬ (A = 0 ∨ e ≤ hi p A - j) from fun z => z.elim hA0 h2)]
        have hm : (e - s).toNat = hi p w + (e - (hi p A - j)).toNat := by omega
        have hpos : 0 < (e - (hi p A - j)).toNat := by omega
        generalize hk : (e - (hi p A - j)).toNat = k at hm hpos
        have hr : w % p ^ (e - s).toNat = p ^ hi p w * (u % p ^ k) := by
          rw [hm, Int.pow_add]
          conv => lhs; arg 1; rw [eu]
          exact Int.mul_emod_mul_of_pos _ _ (Nu.pow_pos hp _)
        have hu2 : ¬ p ∣ u % p ^ k := fun z => hu (by
          have h3 := Int.mul_ediv_add_emod u (p ^ k)
          rw [← h3]
          refine Int.dvd_add (Int.dvd_trans ?_ (Int.dvd_mul_right _ _)) z
          exact ⟨p ^ (k - 1), by rw [show k = (k - 1) + 1 by omega, Int.pow_succ, Int.mul_comm]; simp⟩)
        have hr0 : w % p ^ (e - s).toNat ≠ 0 := by rw [hr]; exact Int.mul_ne_zero (pne hp _) (nz_of hu2)
        have hhr : hi p (w % p ^ (e - s).toNat) = hi p w := by rw [hr]; exact hi_eq hp _ hu2
        rw [if_neg hr0, hhr, hr, Int.mul_ediv_cancel_left _ (pne hp _), hAd]
        have e1 : s + (hi p w : Int) = hi p A - j := by omega
        have e2 : e - s - (hi p w : Int) = e - (hi p A - j) := by omega
        rw [e1, e2]
theorem settled_cong {w w' s e : Int} (h : s < e → p ^ (e - s).toNat ∣ w - w') : settledF p w s e = settledF p w' s e := by
  unfold settledF
  by_cases h1 : e ≤ s
  · rw [if_pos h1, if_pos h1]
  · have : w % p ^ (e - s).toNat = w' % p ^ (e - s).toNat := Int.emod_eq_emod_iff_emod_sub_eq_zero.mpr (Int.emod_eq_zero_of_dvd (h (by omega)))
    rw [this]
/-- the exponent of the lower number of a number's own fraction -/
def jF (x : Nm) : Nat := (max 0 (0 - x.2.1)).toNat + (max 0 (0 - endF x)).toNat
def nF (x : Nm) : Nat := (max 0 x.2.1).toNat + (max 0 (0 - endF x)).toNat
theorem nF_eq (x : Nm) : (nF x : Int) = x.2.1 + jF x := by unfold nF jF; omega
theorem frac0 (x : Nm) : fracF p x 0 = (p ^ nF x * x.1, p ^ jF x) := by
  unfold fracF nF jF
  rw [Int.pow_add, Int.pow_add]
  refine Prod.ext ?_ rfl
  show _ + 0 * _ * _ = _
  rw [Int.zero_mul, Int.zero_mul, Int.add_zero]
  grind
theorem fracM (x : Nm) (m : Int) (hd : 0 ≤ x.2.2) : fracF p x m = (p ^ nF x * (x.1 + m * p ^ x.2.2.toNat), p ^ jF x) := by
  have h1 : (max 0 (endF x)).toNat + (max 0 (0 - x.2.1)).toNat = nF x + x.2.2.toNat := by unfold nF endF; omega
  have h2 : p ^ (max 0 (endF x)).toNat * p ^ (max 0 (0 - x.2.1)).toNat = p ^ nF x * p ^ x.2.2.toNat := by rw [← Int.pow_add, h1, Int.pow_add]
  have h3 : p ^ nF x = p ^ (max 0 x.2.1).toNat * p ^ (max 0 (0 - endF x)).toNat := by unfold nF; rw [Int.pow_add]
  have h4 : p ^ jF x = p ^ (max 0 (0 - x.2.1)).toNat * p ^ (max 0 (0 - endF x)).toNat := by unfold jF; rw [Int.pow_add]
  unfold fracF
  rw [h4]
  refine Prod.ext ?_ rfl
  show x.1 * _ * _ + m * _ * _ = _
  grind
theorem Vn.nb (hp : Pp p) {x : Nm} (h : Vn p x) : Nb x where
  u := by
    have h1 := h.d0; have h2 := h.d1
    by_cases h0 : x.2.2 = 0
    · rw [h.z h0]; exact Nat.pow_pos (by decide)
    · obtain ⟨a, b, _⟩ := h.u (by omega)
      exact B.le (by omega) (hp.pow (n := x.2.2.toNat) (by omega))
  s0 := by have := h.s0; omega
  s1 := by have := h.s1; omega
  d0 := h.d0
  d1 := by have := h.d1; omega
theorem Vn.isF {x : Nm} (h : Vn p x) : isF p x = true := by
  have h0 := h.s0; have h1 := h.s1; have h2 := h.d0; have h3 := h.d1
  unfold K05.isF
  refine decide_eq_true ⟨by omega, by omega, by omega, by omega, ?_⟩
  split
  · rename_i z; exact h.z z
  · rename_i z
    obtain ⟨a, b, c⟩ := h.u (by omega)
    exact ⟨by omega, b, fun y => c (Int.dvd_of_emod_eq_zero y)⟩
theorem Vn.j {x : Nm} (h : Vn p x) : jF x ≤ 200 := by
  have h0 := h.s0; have h1 := h.s1; have h2 := h.d0; have h3 := h.d1
  unfold jF endF; omega
/-- sums and differences -/
def wF (p : Int) (x y : Nm) (g : Int) : Int := x.1 * p ^ (x.2.1 - min x.2.1 y.2.1).toNat + g * y.1 * p ^ (y.2.1 - min x.2.1 y.2.1).toNat
theorem sum_A (x y : Nm) (g : Int) : ∃ n : Nat, (n : Int) = min x.2.1 y.2.1 + ((jF x + jF y : Nat) : Int) ∧ lsumF_A p x y g = p ^ n * wF p x y g := by
  have hx := nF_eq x
  have hy := nF_eq y
  refine ⟨(min x.2.1 y.2.1 + ((jF x + jF y : Nat) : Int)).toNat, by omega, ?_⟩
  generalize hn : (min x.2.1 y.2.1 + ((jF x + jF y : Nat) : Int)).toNat = n
  have h1 : p ^ nF x * p ^ jF y = p ^ n * p ^ (x.2.1 - min x.2.1 y.2.1).toNat := by rw [← Int.pow_add, ← Int.pow_add]; congr 1; omega
  have h2 : p ^ nF y * p ^ jF x = p ^ n * p ^ (y.2.1 - min x.2.1 y.2.1).toNat := by rw [← Int.pow_add, ← Int.pow_add]; congr 1; omega
  unfold lsumF_A wF
  rw [frac0, frac0]
  simp only
  grind
theorem sum_B (x y : Nm) : lsumF_B p x y = p ^ (jF x + jF y) := by
  unfold lsumF_B
  rw [frac0, frac0, Int.pow_add]
theorem sum_settled (hp : 2 ≤ p) (x y : Nm) (g : Int) : lsumF p x y g = settledF p (wF p x y g) (min x.2.1 y.2.1) (min (endF x) (endF y)) := by
  obtain ⟨n, hn, hA⟩ := sum_A (p := p) x y g
  unfold lsumF
  rw [sum_B]
  exact (settled_lm hp hn hA).symm
theorem plus_ok (hp : 2 ≤ p) (x y : Nm) : plusF p x y = lsumF p x y 1 := by
  rw [sum_settled hp]
  unfold plusF wF
  rw [Int.one_mul]
theorem settled_unit (hp : 2 ≤ p) {w s e : Int} (hw : ¬ p ∣ w) (h : s < e) : settledF p w s e = (w % p ^ (e - s).toNat, s, e - s) := by
  have h1 : ¬ w % p ^ (e - s).toNat = 0 := fun z => hw (Int.dvd_trans ⟨p ^ ((e - s).toNat - 1), by rw [← Int.pow_succ', show (e - s).toNat - 1 + 1 = (e - s).toNat by omega]⟩ (Int.dvd_of_emod_eq_zero z))
  have h2 : ¬ p ∣ w % p ^ (e - s).toNat := fun z => hw (by
    have h3 := Int.mul_ediv_add_emod w (p ^ (e - s).toNat)
    rw [← h3]
    exact Int.dvd_add (Int.dvd_trans ⟨p ^ ((e - s).toNat - 1), by rw [← Int.pow_succ', show (e - s).toNat - 1 + 1 = (e - s).toNat by omega]⟩ (Int.dvd_mul_right _ _)) z)
  unfold settledF
  rw [if_neg (by omega), if_neg h1, hi_zero hp h2]
  simp
theorem neg_ok (hp : 2 ≤ p) {y : Nm} (h : Vn p y) : negF p y = ((-y.1) % p ^ y.2.2.toNat, y.2.1, y.2.2) := by
  unfold negF endF
  have h2 := h.d0
  by_cases h0 : y.2.2 = 0
  · unfold settledF
    rw [if_pos (by omega), h.z h0, h0]
    simp
  · obtain ⟨a, b, c⟩ := h.u (by omega)
    rw [settled_unit hp (fun z => c (Int.dvd_neg.mp z)) (by omega)]
    rw [show y.2.1 + y.2.2 - y.2.1 = y.2.2 by omega]
theorem minus_ok (hp : 2 ≤ p) {x y : Nm} (h : Vn p y) : minusF p x y = lsumF p x y (-1) := by
  rw [sum_settled hp]
  unfold minusF
  rw [neg_ok hp h]
  unfold plusF wF
  have e1 : endF ((-y.1) % p ^ y.2.2.toNat, y.2.1, y.2.2) = endF y := rfl
  rw [e1]
  refine settled_cong fun hl => ?_
  have h3 := Int.mul_ediv_add_emod (-y.1) (p ^ y.2.2.toNat)
  have h4 : (y.2.1 - min x.2.1 y.2.1).toNat + y.2.2.toNat = (min (endF x) (endF y) - min x.2.1 y.2.1).toNat + ((y.2.1 - min x.2.1 y.2.1).toNat + y.2.2.toNat - (min (endF x) (endF y) - min x.2.1 y.2.1).toNat) := by
    have h5 := h.d0
    have : min (endF x) (endF y) ≤ y.2.1 + y.2.2 := by unfold endF; omega
    omega
  have h5 : p ^ (y.2.1 - min x.2.1 y.2.1).toNat * p ^ y.2.2.toNat = p ^ (min (endF x) (endF y) - min x.2.1 y.2.1).toNat * p ^ ((y.2.1 - min x.2.1 y.2.1).toNat + y.2.2.toNat - (min (endF x) (endF y) - min x.2.1 y.2.1).toNat) := by
    rw [← Int.pow_add, ← Int.pow_add, ← h4]
  simp only
  refine ⟨-(p ^ ((y.2.1 - min x.2.1 y.2.1).toNat + y.2.2.toNat - (min (endF x) (endF y) - min x.2.1 y.2.1).toNat) * (-y.1 / p ^ y.2.2.toNat)), ?_⟩
  grind
end
end K05

namespace K05
open PySem Mp Nu
section
variable {p : Int}
theorem times_ok {x y : Nm} (hx : 0 ≤ x.2.2) (hy : 0 ≤ y.2.2) : timesF p x y = lprodF p x y := by
  unfold timesF lprodF
  by_cases h1 : 0 < min x.2.2 y.2.2
  · rw [if_pos h1, if_neg (by omega)]
  · rw [if_neg h1, if_pos (by omega)]
theorem prod_eq {x y : Nm} (hx : 0 ≤ x.2.2) (hy : 0 ≤ y.2.2) : lprodF p x y = (x.1 * y.1 % p ^ (min x.2.2 y.2.2).toNat, x.2.1 + y.2.1, min x.2.2 y.2.2) := by
  unfold lprodF
  by_cases h1 : x.2.2 = 0 ∨ y.2.2 = 0
  · rw [if_pos h1, show min x.2.2 y.2.2 = 0 by omega]
    simp
  · rw [if_neg h1]
theorem pow_ok {x : Nm} (hx : 0 ≤ x.2.2) : ∀ n, powF (fun t => timesF p t x) x n = powF (fun t => lprodF p t x) x n ∧ 0 ≤ (powF (fun t => lprodF p t x) x n).2.2
  | 0 => ⟨rfl, hx⟩
  | n + 1 => by
    obtain ⟨h1, h2⟩ := pow_ok hx n
    refine ⟨?_, ?_⟩
    · show timesF p _ x = lprodF p _ x
      rw [h1]
      exact times_ok h2 hx
    · show 0 ≤ (lprodF p _ x).2.2
      rw [prod_eq h2 hx]
      simp only
      omega
theorem over_ok (hp : 2 ≤ p) {x y : Nm} (hx : 0 ≤ x.2.2) (hy : 0 < y.2.2) (hz : Bz y.1 p) : overF p x y = lquoF p x y := by
  unfold overF timesF lquoF
  simp only
  by_cases h1 : x.2.2 = 0
  · rw [if_neg (by omega), if_pos h1, Int.sub_eq_add_neg]
  · rw [if_pos (by omega), if_neg h1, Int.sub_eq_add_neg]
    generalize hm : min x.2.2 y.2.2 = m
    have e1 : p ^ y.2.2.toNat = p ^ m.toNat * p ^ (y.2.2.toNat - m.toNat) := by rw [← Int.pow_add]; congr 1; omega
    have z1 := (inv_lt (hz.pow y.2.2.toNat) (Nu.pow_pos hp _)).2.2
    have z2 := inv_mod (Nu.pow_pos hp m.toNat) (Int.dvd_trans ⟨_, e1⟩ z1)
    rw [z2, Int.mul_emod x.1 (_ % _), Int.emod_emod, ← Int.mul_emod]
theorem bare (hp : 2 ≤ p) {b : Int} (hb : b ≠ 0) : ¬ p ∣ b / p ^ hi p b := by
  obtain ⟨u, hu, hd⟩ := hi_spec hp hb
  have : b / p ^ hi p b = u := by
    conv => lhs; arg 1; rw [hu]
    exact Int.mul_ediv_cancel_left _ (pne hp _)
  rwa [this]
theorem unit_mul (h : Pr p) {u v : Int} {k : Nat} (hk : 0 < k) (hu : ¬ p ∣ u) (hv : ¬ p ∣ v) : ¬ p ∣ u * inv v (p ^ k) := fun z => by
  have hz := (h.2.2 u hu).dvd z
  have h1 := (inv_lt ((h.2.2 v hv).pow k) (Nu.pow_pos h.1 _)).2.2
  have h2 : p ∣ p ^ k := ⟨p ^ (k - 1), by rw [← Int.pow_succ', show k - 1 + 1 = k by omega]⟩
  have h3 := Int.dvd_trans h2 h1
  have h4 : p ∣ v * inv v (p ^ k) := Int.dvd_trans hz (Int.dvd_mul_left _ _)
  have h5 := Int.dvd_sub h4 h3
  rw [show v * inv v (p ^ k) - (v * inv v (p ^ k) - 1) = 1 by omega] at h5
  exact nd1 h.1 h5
theorem made_ok (h : Pr p) {a b e : Int} (hb : b ≠ 0) : madeF p a b e = lmF p a b e := by
  unfold madeF lmF
  by_cases h1 : a = 0
  · rw [if_pos h1, if_pos (.inl h1)]
  · rw [if_neg h1]
    by_cases h2 : e ≤ hi p a - hi p b
    · rw [if_pos h2, if_pos (.inr h2)]
    · rw [if_neg h2, if_neg (fun z => z.elim h1 h2)]
      exact settled_unit h.1 (unit_mul h (by omega) (bare h.1 h1) (bare h.1 hb)) (by omega)
/-- what lmF tells ends at the end -/
theorem lm_end {A b e : Int} : endF (lmF p A b e) = e := by
  unfold lmF endF
  split
  · simp
  · simp only; omega
theorem lm_vn (h : Pr p) {A e : Int} {j : Nat} (h0 : -100 ≤ e) (h1 : e ≤ 100) (hl : A ≠ 0 → -100 ≤ (hi p A : Int) - j) : Vn p (lmF p A (p ^ j) e) := by
  rw [lm_pow h.1]
  by_cases hA : A = 0 ∨ e ≤ hi p A - j
  · rw [if_pos hA]
    exact ⟨h0, h1, by simp, by simp, by simp only; omega, fun _ => rfl, fun z => by simp at z⟩
  · rw [if_neg hA]
    have hA0 : A ≠ 0 := fun z => hA (.inl z)
    have hA1 : ¬ e ≤ hi p A - j := fun z => hA (.inr z)
    have h2 := hl hA0
    have h3 : ¬ p ∣ A / p ^ hi p A % p ^ (e - (hi p A - j)).toNat := fun z => bare h.1 hA0 (by
      have h3 := Int.mul_ediv_add_emod (A / p ^ hi p A) (p ^ (e - (hi p A - j)).toNat)
      rw [← h3]
      exact Int.dvd_add (Int.dvd_trans ⟨p ^ ((e - (hi p A - j)).toNat - 1), by rw [← Int.pow_succ', show (e - (hi p A - j)).toNat - 1 + 1 = (e - (hi p A - j)).toNat by omega]⟩ (Int.dvd_mul_right _ _)) z)
    have h4 := Int.emod_nonneg (A / p ^ hi p A) (pne h.1 (e - (hi p A - j)).toNat)
    have h5 := Int.emod_lt_of_pos (A / p ^ hi p A) (Nu.pow_pos h.1 (e - (hi p A - j)).toNat)
    have h6 := nz_of h3
    exact ⟨by simp only; omega, by simp only; omega, by simp only; omega, by simp only; omega, by simp only; omega, fun z => by simp only at z; omega, fun _ => ⟨by simp only; omega, h5, h3⟩⟩
/-- a number that has a fraction: by what divides -/
theorem rest_eq (x : Nm) (a b : Int) : restF p x a b = a * p ^ jF x - p ^ nF x * x.1 * b := by unfold restF; rw [frac0]
theorem lhas_of (hp : 2 ≤ p) {x : Nm} {a : Int} {k n : Nat} (hn : endF x + k + jF x ≤ n) (hd : p ^ n ∣ restF p x a (p ^ k)) : lhasF p x a (p ^ k) = true := by
  unfold lhasF
  refine decide_eq_true ?_
  by_cases h0 : restF p x a (p ^ k) = 0
  · exact .inl h0
  · right
    have h1 := (hi_dvd hp h0 n).mpr hd
    rw [frac0]
    simp only
    rw [← Int.pow_add, hi_pow hp]
    omega
theorem has_lhas (hp : 2 ≤ p) (x : Nm) (a : Int) {b : Int} (hb : b ≠ 0) : hasF p x a b = lhasF p x a b := by
  unfold hasF lhasF
  have key : ∃ k : Nat, restF p x a b = p ^ k * topF p x a b ∧ b * (fracF p x 0).2 = p ^ k * lowF p x b ∧ lowF p x b ≠ 0 := by
    refine ⟨(max 0 (0 - endF x)).toNat, ?_⟩
    rw [rest_eq, frac0]
    unfold topF lowF valF
    by_cases h0 : 0 ≤ x.2.1
    · rw [if_pos h0]
      have e1 : jF x = (max 0 (0 - endF x)).toNat := by unfold jF; omega
      have e2 : p ^ nF x = p ^ (max 0 (0 - endF x)).toNat * p ^ x.2.1.toNat := by rw [← Int.pow_add]; congr 1; unfold nF; omega
      rw [e1, e2]
      refine ⟨by grind, by grind, by simpa using hb⟩
    · rw [if_neg h0]
      have e1 : p ^ jF x = p ^ (max 0 (0 - endF x)).toNat * p ^ (-x.2.1).toNat := by rw [← Int.pow_add]; congr 1; unfold jF; omega
      have e2 : nF x = (max 0 (0 - endF x)).toNat := by unfold nF; omega
      rw [e1, e2]
      refine ⟨by grind, by grind, Int.mul_ne_zero hb (pne hp _)⟩
  obtain ⟨k, h1, h2, h3⟩ := key
  rw [h1, h2, hi_mul hp k h3]
  by_cases h0 : topF p x a b = 0
  · simp [h0]
  · rw [hi_mul hp k h0]
    have h4 := pne hp k
    have e : (p ^ k * topF p x a b = 0) = (topF p x a b = 0) := by
      apply propext
      constructor
      · intro z
        rcases Int.mul_eq_zero.mp z with z | z
        · exact absurd z h4
        · exact z
      · intro z; exact absurd z h0
    refine decide_eq_decide.mpr ?_
    rw [e]
    constructor <;> (rintro (z | z); exact .inl z; right; omega)
theorem has_self (hp : 2 ≤ p) (x : Nm) (hd : 0 ≤ x.2.2) (m : Int) : lhasF p x (fracF p x m).1 (fracF p x m).2 = true := by
  rw [fracM x m hd]
  have hn := nF_eq x
  have e1 : endF x = x.2.1 + x.2.2 := rfl
  refine lhas_of hp (n := nF x + x.2.2.toNat + jF x) (by omega) ?_
  rw [rest_eq]
  simp only
  exact ⟨m, by rw [Int.pow_add, Int.pow_add]; grind⟩
/-- of what lmF tells -/
theorem lm_val (hp : 2 ≤ p) {A e : Int} {j : Nat} (he : 0 ≤ e + j) : p ^ ((e + j).toNat + jF (lmF p A (p ^ j) e)) ∣ A * p ^ jF (lmF p A (p ^ j) e) - p ^ nF (lmF p A (p ^ j) e) * (lmF p A (p ^ j) e).1 * p ^ j := by
  have hn := nF_eq (lmF p A (p ^ j) e)
  generalize hz : lmF p A (p ^ j) e = z at hn ⊢
  rw [lm_pow hp] at hz
  by_cases hA : A = 0 ∨ e ≤ hi p A - j
  · rw [if_pos hA] at hz
    have : z.1 = 0 := by rw [← hz]
    rw [this, Int.mul_zero, Int.zero_mul, Int.sub_zero, Int.pow_add]
    refine Int.mul_dvd_mul ?_ (Int.dvd_refl _)
    by_cases h0 : A = 0
    · rw [h0]; exact Int.dvd_zero _
    · exact (hi_dvd hp h0 _).mp (by rcases hA with z | z; exact absurd z h0; omega)
  · rw [if_neg hA] at hz
    have hA0 : A ≠ 0 := fun z => hA (.inl z)
    have hA1 : ¬ e ≤ hi p A - j := fun z => hA (.inr z)
    obtain ⟨u, eu, hu⟩ := hi_spec hp hA0
    have hAd : A / p ^ hi p A = u := by
      conv => lhs; arg 1; rw [eu]
      exact Int.mul_ediv_cancel_left _ (pne hp _)
    have z1 : z.1 = u % p ^ (e - (hi p A - j)).toNat := by rw [← hz, hAd]
    have z2 : z.2.1 = hi p A - j := by rw [← hz]
    have h3 := Int.mul_ediv_add_emod u (p ^ (e - (hi p A - j)).toNat)
    rw [← z1] at h3
    have e1 : p ^ nF z * p ^ j = p ^ hi p A * p ^ jF z := by rw [← Int.pow_add, ← Int.pow_add]; congr 1; omega
    have e2 : p ^ ((e + j).toNat + jF z) = p ^ hi p A * p ^ jF z * p ^ (e - (hi p A - j)).toNat := by rw [← Int.pow_add, ← Int.pow_add]; congr 1; omega
    refine ⟨u / p ^ (e - (hi p A - j)).toNat, ?_⟩
    rw [e2]
    grind
theorem sum_has (hp : 2 ≤ p) {x y : Nm} (hx : 0 ≤ x.2.2) (hy : 0 ≤ y.2.2) (m k : Int) : lhasF p (lsumF p x y 1) ((fracF p x m).1 * (fracF p y k).2 + (fracF p y k).1 * (fracF p x m).2) ((fracF p x m).2 * (fracF p y k).2) = true := by
  have hnx := nF_eq x
  have hny := nF_eq y
  have ex : endF x = x.2.1 + x.2.2 := rfl
  have ey : endF y = y.2.1 + y.2.2 := rfl
  have jx : 0 ≤ endF x + jF x := by unfold jF; omega
  have jy : 0 ≤ endF y + jF y := by unfold jF; omega
  have hv := lm_val hp (A := lsumF_A p x y 1) (e := min (endF x) (endF y)) (j := jF x + jF y) (by omega)
  have hz : lsumF p x y 1 = lmF p (lsumF_A p x y 1) (p ^ (jF x + jF y)) (min (endF x) (endF y)) := by unfold lsumF; rw [sum_B]
  rw [← hz] at hv
  have he : endF (lsumF p x y 1) = min (endF x) (endF y) := by rw [hz]; exact lm_end
  rw [fracM x m hx, fracM y k hy]
  simp only
  rw [← Int.pow_add]
  refine lhas_of hp (n := (min (endF x) (endF y) + ((jF x + jF y : Nat) : Int)).toNat + jF (lsumF p x y 1)) (by omega) ?_
  rw [rest_eq]
  unfold lsumF_A at hv
  rw [frac0, frac0] at hv
  simp only at hv
  obtain ⟨c, hc⟩ := hv
  generalize lsumF p x y 1 = z at *
  have e1 : p ^ nF x * p ^ x.2.2.toNat * p ^ jF y * p ^ jF z = p ^ ((min (endF x) (endF y) + ((jF x + jF y : Nat) : Int)).toNat + jF z) * p ^ (nF x + x.2.2.toNat + jF y - (min (endF x) (endF y) + ((jF x + jF y : Nat) : Int)).toNat) := by
    rw [← Int.pow_add, ← Int.pow_add, ← Int.pow_add, ← Int.pow_add]; congr 1; omega
  have e2 : p ^ nF y * p ^ y.2.2.toNat * p ^ jF x * p ^ jF z = p ^ ((min (endF x) (endF y) + ((jF x + jF y : Nat) : Int)).toNat + jF z) * p ^ (nF y + y.2.2.toNat + jF x - (min (endF x) (endF y) + ((jF x + jF y : Nat) : Int)).toNat) := by
    rw [← Int.pow_add, ← Int.pow_add, ← Int.pow_add, ← Int.pow_add]; congr 1; omega
  refine ⟨c + m * p ^ (nF x + x.2.2.toNat + jF y - (min (endF x) (endF y) + ((jF x + jF y : Nat) : Int)).toNat) + k * p ^ (nF y + y.2.2.toNat + jF x - (min (endF x) (endF y) + ((jF x + jF y : Nat) : Int)).toNat), ?_⟩
  generalize p ^ ((min (endF x) (endF y) + ((jF x + jF y : Nat) : Int)).toNat + jF z) = P at *
  generalize p ^ (nF x + x.2.2.toNat + jF y - (min (endF x) (endF y) + ((jF x + jF y : Nat) : Int)).toNat) = P1 at *
  generalize p ^ (nF y + y.2.2.toNat + jF x - (min (endF x) (endF y) + ((jF x + jF y : Nat) : Int)).toNat) = P2 at *
  grind
theorem prod_has (hp : 2 ≤ p) {x y : Nm} (hx : 0 ≤ x.2.2) (hy : 0 ≤ y.2.2) (m k : Int) : lhasF p (lprodF p x y) ((fracF p x m).1 * (fracF p y k).1) ((fracF p x m).2 * (fracF p y k).2) = true := by
  have hnx := nF_eq x
  have hny := nF_eq y
  rw [prod_eq hx hy]
  generalize hz : ((x.1 * y.1 % p ^ (min x.2.2 y.2.2).toNat, x.2.1 + y.2.1, min x.2.2 y.2.2) : Nm) = z
  have hnz := nF_eq z
  have z1 : z.1 = x.1 * y.1 % p ^ (min x.2.2 y.2.2).toNat := by rw [← hz]
  have z2 : z.2.1 = x.2.1 + y.2.1 := by rw [← hz]
  have ez : endF z = x.2.1 + y.2.1 + min x.2.2 y.2.2 := by rw [← hz]; rfl
  rw [fracM x m hx, fracM y k hy]
  simp only
  rw [← Int.pow_add]
  refine lhas_of hp (n := nF x + nF y + jF z + (min x.2.2 y.2.2).toNat) (by omega) ?_
  rw [rest_eq]
  have h3 := Int.mul_ediv_add_emod (x.1 * y.1) (p ^ (min x.2.2 y.2.2).toNat)
  rw [← z1] at h3
  have e1 : p ^ nF z * p ^ (jF x + jF y) = p ^ nF x * p ^ nF y * p ^ jF z := by rw [← Int.pow_add, ← Int.pow_add, ← Int.pow_add]; congr 1; omega
  have e2 : p ^ (nF x + nF y + jF z + (min x.2.2 y.2.2).toNat) = p ^ nF x * p ^ nF y * p ^ jF z * p ^ (min x.2.2 y.2.2).toNat := by rw [← Int.pow_add, ← Int.pow_add, ← Int.pow_add]
  have e3 : p ^ x.2.2.toNat = p ^ (min x.2.2 y.2.2).toNat * p ^ (x.2.2.toNat - (min x.2.2 y.2.2).toNat) := by rw [← Int.pow_add]; congr 1; omega
  have e4 : p ^ y.2.2.toNat = p ^ (min x.2.2 y.2.2).toNat * p ^ (y.2.2.toNat - (min x.2.2 y.2.2).toNat) := by rw [← Int.pow_add]; congr 1; omega
  rw [e2, e3, e4]
  generalize p ^ (min x.2.2 y.2.2).toNat = P at *
  generalize p ^ (x.2.2.toNat - (min x.2.2 y.2.2).toNat) = P1 at *
  generalize p ^ (y.2.2.toNat - (min x.2.2 y.2.2).toNat) = P2 at *
  refine ⟨x.1 * y.1 / P + x.1 * k * P2 + y.1 * m * P1 + m * k * P * P1 * P2, ?_⟩
  grind
theorem agree_ok (hp : 2 ≤ p) {x y : Nm} (hy : Vn p y) (far near : Nm) (h : (far = x ∧ near = y ∧ endF y ≤ endF x) ∨ (far = y ∧ near = x ∧ endF x ≤ endF y)) :
    decide ((minusF p x y).2.2 = 0) = lhasF p near (fracF p far 0).1 (fracF p far 0).2 := by
  rw [minus_ok hp hy]
  unfold lsumF
  rw [sum_B, lm_pow hp]
  have e : ∃ R : Int, (R = lsumF_A p x y (-1) ∨ R = -lsumF_A p x y (-1)) ∧ restF p near (fracF p far 0).1 (fracF p far 0).2 = R ∧ hi p ((fracF p far 0).2 * (fracF p near 0).2) = jF x + jF y ∧ endF near = min (endF x) (endF y) := by
    rcases h with ⟨rfl, rfl, h⟩ | ⟨rfl, rfl, h⟩
    · refine ⟨_, .inl rfl, ?_, ?_, by omega⟩
      · rw [rest_eq]; unfold lsumF_A; rw [frac0, frac0]; simp only; grind
      · rw [frac0, frac0]; simp only; rw [← Int.pow_add, hi_pow hp]
    · refine ⟨_, .inr rfl, ?_, ?_, by omega⟩
      · rw [rest_eq]; unfold lsumF_A; rw [frac0, frac0]; simp only; grind
      · rw [frac0, frac0]; simp only; rw [← Int.pow_add, hi_pow hp]; omega
  obtain ⟨R, hR, h1, h2, h3⟩ := e
  unfold lhasF
  rw [h1, h2, h3]
  have hh : hi p R = hi p (lsumF_A p x y (-1)) := by
    rcases hR with rfl | rfl
    · rfl
    · exact hi_neg hp
  have h0 : R = 0 ↔ lsumF_A p x y (-1) = 0 := by
    rcases hR with rfl | rfl
    · exact Iff.rfl
    · omega
  rw [hh]
  by_cases hA : lsumF_A p x y (-1) = 0 ∨ min (endF x) (endF y) ≤ hi p (lsumF_A p x y (-1)) - ((jF x + jF y : Nat) : Int)
  · rw [if_pos hA, decide_eq_true (show R = 0 ∨ _ from hA.imp h0.mpr id)]
    simp
  · rw [if_neg hA, decide_eq_false (show ¬ (R = 0 ∨ _) from fun z => hA (z.imp h0.mp id))]
    refine decide_eq_false ?_
    simp only
    have hA1 : ¬ min (endF x) (endF y) ≤ hi p (lsumF_A p x y (-1)) - ((jF x + jF y : Nat) : Int) := fun z => hA (.inr z)
    omega
theorem cut_ok (hp : 2 ≤ p) (x : Nm) (e : Int) : cutF p x e = lmF p (fracF p x 0).1 (fracF p x 0).2 e := by
  unfold cutF
  rw [frac0]
  exact settled_lm hp (nF_eq x) rfl
end
end K05

namespace K05
open PySem PySem.Spec PyProof.Rows L2 Mp Nu
noncomputable def gsL : List Spc := [sp_law_pick, spDraw, sp_law_fraction, sp_raised, sp_law_number, sp_agree, sp_law_has, sp_law_end, sp_plus, sp_minus, sp_law_made, sp_end_of, sp_is_number, sp_law_sum, sp_times, sp_law_product, sp_over, sp_law_quotient, sp_has, sp_cut, sp_power, sp_made, sp_height, sp_law_high]
@[simp] theorem gL0 : gsL[0]? = some sp_law_pick := rfl
@[simp] theorem gL1 : gsL[1]? = some spDraw := rfl
@[simp] theorem gL2 : gsL[2]? = some sp_law_fraction := rfl
@[simp] theorem gL3 : gsL[3]? = some sp_raised := rfl
@[simp] theorem gL4 : gsL[4]? = some sp_law_number := rfl
@[simp] theorem gL5 : gsL[5]? = some sp_agree := rfl
@[simp] theorem gL6 : gsL[6]? = some sp_law_has := rfl
@[simp] theorem gL7 : gsL[7]? = some sp_law_end := rfl
@[simp] theorem gL8 : gsL[8]? = some sp_plus := rfl
@[simp] theorem gL9 : gsL[9]? = some sp_minus := rfl
@[simp] theorem gL10 : gsL[10]? = some sp_law_made := rfl
@[simp] theorem gL11 : gsL[11]? = some sp_end_of := rfl
@[simp] theorem gL12 : gsL[12]? = some sp_is_number := rfl
@[simp] theorem gL13 : gsL[13]? = some sp_law_sum := rfl
@[simp] theorem gL14 : gsL[14]? = some sp_times := rfl
@[simp] theorem gL15 : gsL[15]? = some sp_law_product := rfl
@[simp] theorem gL16 : gsL[16]? = some sp_over := rfl
@[simp] theorem gL17 : gsL[17]? = some sp_law_quotient := rfl
@[simp] theorem gL18 : gsL[18]? = some sp_has := rfl
@[simp] theorem gL19 : gsL[19]? = some sp_cut := rfl
@[simp] theorem gL20 : gsL[20]? = some sp_power := rfl
@[simp] theorem gL21 : gsL[21]? = some sp_made := rfl
@[simp] theorem gL22 : gsL[22]? = some sp_height := rfl
@[simp] theorem gL23 : gsL[23]? = some sp_law_high := rfl
@[simp] theorem nm_eta (x : Nm) : (x.1, x.2.1, x.2.2) = x := rfl
/-- what is wanted behind a turn -/
def Tn (E : En) : Prop := ∀ c2 c3 c4 c5 c6 c7 c8 c9 c10 c11 c12 c13 c14 c15 c16 c17 c18 c19 c20 c21 c22 c23 : Cell, E.nx [.un, .sh stTok, c2, c3, c4, c5, c6, c7, c8, c9, c10, c11, c12, c13, c14, c15, c16, c17, c18, c19, c20, c21, c22, c23]
/-- one row -/
theorem t_row {E : En} {p : Int} {r : Nm} (hp : Pp p) {c2 c4 c5 c6 c7 c8 c9 c10 c11 c12 c13 c14 c15 c16 c17 c18 c19 c20 c21 c23 : Cell}
    (hq : ∀ c, E.nx [.un, .sh stTok, c2, .sh (.int p), c4, c5, c6, c7, c8, c9, c10, c11, c12, c13, c14, c15, c16, c17, c18, c19, c20, c21, .sh (tri r), c]) :
    wS gsL s_law_8 E [.un, .sh stTok, c2, .sh (.int p), c4, c5, c6, c7, c8, c9, c10, c11, c12, c13, c14, c15, c16, c17, c18, c19, c20, c21, .sh (tri r), c23] := by
  obtain ⟨a, b, c⟩ := r
  have hf : ∀ k : Bool, isF p (a, b, c) = k → wS gsL s_law_7 E [.un, .sh stTok, c2, .sh (.int p), c4, c5, c6, c7, c8, c9, c10, c11, c12, c13, c14, c15, c16, c17, c18, c19, c20, c21, .sh (tri (a, b, c)), .sh (.bool k)] := by
    intro k hk
    simp [s_law_7, hp, hk]
    exact hq _
  simp [s_law_8, bin_mod_pos (pp0 hp), hp]
  generalize hG : (fun k => wS gsL s_law_7 E [.un, .sh stTok, c2, .sh (.int p), c4, c5, c6, c7, c8, c9, c10, c11, c12, c13, c14, c15, c16, c17, c18, c19, c20, c21, .sh (tri (a, b, c)), .sh (.bool k)]) = G
  have hG' : ∀ k, wS gsL s_law_7 E [.un, .sh stTok, c2, .sh (.int p), c4, c5, c6, c7, c8, c9, c10, c11, c12, c13, c14, c15, c16, c17, c18, c19, c20, c21, .sh (.tuple [.int a, .int b, .int c]), .sh (.bool k)] = G k := fun k => by rw [← hG]; rfl
  have hf : ∀ k : Bool, isF p (a, b, c) = k → G k := fun k h => by rw [← hG']; exact hf k h
  simp only [hG']
  clear hG hG' hq
  by_cases h1 : -400 ≤ b
  · rw [if_pos h1]
    by_cases h2 : b ≤ 400
    · refine .inr ⟨h2, ?_⟩
      by_cases h4 : 1 ≤ c
      · by_cases h5 : c ≤ 200
        · have k1 : (max 0 c < 4611686018427387904 ∧ -4611686018427387904 ≤ max 0 c) := by omega
          have k2 : max 0 c = c := by omega
          have k3 : ¬ c = 0 := by omega
          simp only [k1, k2, k3, h4, h5, if_true, true_and, not_true, not_false_eq_true, false_and, or_false, and_true]
          by_cases h6 : 0 < a
          · by_cases h7 : a % p = 0
            · have k := hf false (by simp [isF, h1, h2, h5, h6, h7, k3])
              split <;> simp [h5, h6, h7, k]
            · have k := hf (decide (a < p ^ c.toNat)) (by
                unfold isF
                refine decide_eq_decide.mpr ?_
                simp only [if_neg k3]
                exact ⟨fun z => z.2.2.2.2.2.1, fun z => ⟨h1, h2, by omega, h5, by omega, z, h7⟩⟩)
              have k9 : c < 4611686018427387904 ∧ -4611686018427387904 ≤ c := by omega
              split <;> simp [h5, h6, h7, k, k9]
          · have k := hf false (by simp [isF, k3]; intros; omega)
            split <;> simp [h6, k] <;> omega
        · have k := hf false (by simp [isF]; intros; omega)
          have k3 : ¬ c = 0 := by omega
          split <;> simp [h4, h5, k, k3] <;> omega
      · by_cases h3 : c = 0
        · by_cases h8 : a = c
          · have k := hf true (by simp [isF, h1, h2, h3]; omega)
            rw [if_pos h8]
            exact .inr ⟨h3, k⟩
          · have k := hf false (by simp [isF, h1, h2, h3]; omega)
            rw [if_neg h8, if_neg h4]
            exact k
        · have k := hf false (by simp [isF]; intros; omega)
          split <;> simp [h3, h4, k]
    · exact .inl ⟨by omega, hf false (by simp [isF, h2])⟩
  · rw [if_neg h1]
    exact hf false (by simp [isF, h1])

/-- the last part of a turn: numbers made, rows -/
theorem t_16 {E : En} {p : Int} {x : Nm} (hp : Pr p) (hx : Vn p x) (hT : Tn E) (c2 c5 c6 c7 c8 c9 c10 c11 c12 c13 c14 c15 c16 c17 c18 c19 c20 c21 c22 c23 : Cell) :
    wS gsL s_law_16 E [.un, .sh stTok, c2, .sh (.int p), .sh (tri x), c5, c6, c7, c8, c9, c10, c11, c12, c13, c14, c15, c16, c17, c18, c19, c20, c21, c22, c23] := by
  have pp := Pr.pp hp
  obtain ⟨u, s, d⟩ := x
  have d0 := hx.d0; have d1 := hx.d1
  have nu := (hx.nb pp).u
  simp only at d0 d1 nu
  simp [s_law_16]
  refine ⟨small_log (n := 2001) (by decide), fun a a0 a1 => ⟨small_log (n := 300) (by decide), fun b b0 b1 => ?_⟩⟩
  simp [s_law_15]
  refine ⟨small_log (n := 121) (by decide), fun e e0 e1 => ?_⟩
  have hb : 1 + b ≠ 0 := by omega
  have hb2 := hi_lt hp.1 hb
  have q1 : (a - 1000).natAbs < 2 ^ 11 := by omega
  have q2 : (1 + b).natAbs < 2 ^ 11 := by omega
  have md : Pmd p (a - 1000) (1 + b) (e - 20) := ⟨hp, hb, B.mono q1, B.mono q2, by omega, by omega, fun _ => by omega⟩
  have t13 : wS gsL s_law_13 E [.un, .sh stTok, c2, .sh (.int p), .sh (tri (u, s, d)), c5, c6, .sh (.int (e - 20)), .sh (.int (a - 1000)), .sh (.int (1 + b)), c10, c11, c12, c13, c14, c15, c16, c17, c18, c19, c20, c21, c22, c23] := by
    simp [s_law_13, s_law_12, s_law_11, s_law_10, pp]
    refine ⟨⟨by omega, by omega⟩, mulR pp.small, _, .inl rfl, ?_⟩
    refine forL_inv (fun k ρ => ∃ y z, ρ = [.un, .sh stTok, c2, .sh (.int p), .sh (tri (u, s, d)), c5, c6, .sh (.int (e - 20)), .sh (.int (a - 1000)), .sh (.int (1 + b)), c10, c11, c12, c13, c14, c15, c16, .sh (.int u), .sh (.int s), .sh (.int d), .sh (.int (p ^ d.toNat)), _, y, z]) ⟨_, _, rfl⟩ ?_ ?_
    · rintro k x ρ R hk ⟨y, z, rfl⟩ hR
      have hx := List.mem_of_getElem? hk
      obtain ⟨r, rfl⟩ : ∃ r : Nm, x = tri r := by
        simp only [List.mem_cons, List.not_mem_nil, or_false] at hx
        rcases hx with h | h | h | h | h | h | h | h | h | h | h | h <;> exact ⟨(_, _, _), h⟩
      show wS gsL s_law_8 _ _
      exact t_row pp fun c => hR _ ⟨_, _, rfl⟩
    · rintro ρ ⟨y, z, rfl⟩
      exact hT _ _ _ _ _ _ _ _ _ _ _ _ _ _ _ _ _ _ _ _ _ _
  simp [s_law_14, md, made_ok hp hb, pp, hb]
  by_cases ha : a - 1000 = 0
  · simp [ha]
    rw [ha] at t13
    exact ⟨⟨rfl, Nat.zero_le _⟩, ⟨rfl, Nat.zero_le _⟩, t13⟩
  · simp [ha]
    exact t13
theorem t_18 {E : En} {p : Int} {x : Nm} (hp : Pr p) (hx : Vn p x) (hT : Tn E) (c2 c5 c6 c7 c8 c9 c10 c11 c12 c13 c14 c15 c16 c17 c18 c19 c20 c21 c22 c23 : Cell) :
    wS gsL s_law_18 E [.un, .sh stTok, c2, .sh (.int p), .sh (tri x), c5, c6, c7, c8, c9, c10, c11, c12, c13, c14, c15, c16, c17, c18, c19, c20, c21, c22, c23] := by
  have pp := Pr.pp hp
  have nb := hx.nb pp
  have b9 : B 9000 x.1 := nb.u.mono
  have d0 := hx.d0; have d1 := hx.d1; have s0 := hx.s0; have s1 := hx.s1
  simp [s_law_18]
  refine ⟨small_log (n := 12) (by decide), fun a a0 a1 => ?_⟩
  simp [s_law_17]
  refine ⟨mulR (by omega), ?_⟩
  split
  · simp [s_law_6, s_law_5]
    refine ⟨⟨by omega, by omega⟩, ?_⟩
    refine for_rng (fun k ρ => ∃ y, ρ = [.un, .sh stTok, c2, .sh (.int p), .sh (tri x), c5, c6, c7, c8, c9, c10, c11, c12, c13, .sh (.int (1 + a)), .sh (tri (powF (fun t => timesF p t x) x k)), y, c17, c18, c19, c20, c21, c22, c23]) ⟨_, rfl⟩ ?_ ?_
    · rintro k ρ R hk ⟨y, rfl⟩ hR
      obtain ⟨h1, h2⟩ := pow_B pp b9 (show x.2.2 ≤ 400 by omega) k
      obtain ⟨h3, h4⟩ := pow_ok (p := p) d0 k
      rw [← h3] at h4
      simp [pp, h1, h2, h4, b9, d0]
      refine hR _ ⟨.sh (.int k), ?_⟩
      rw [← times_ok h4 d0]
      rfl
    · rintro ρ ⟨y, rfl⟩
      simp [s_law_4, pp, b9]
      refine ⟨⟨by omega, by omega, by omega⟩, ?_⟩
      exact t_16 hp hx hT ..
  · exact t_16 hp hx hT ..
theorem hz10 : B 10 0 := Nat.pow_pos (by decide)
theorem Pmd.frac {p : Int} (hp : Pr p) {x : Nm} (hx : Vn p x) {e : Int} (he : e ≤ 200) : Pmd p (fracF p x 0).1 (fracF p x 0).2 e := by
  have pp := Pr.pp hp
  obtain ⟨b1, b2, b3⟩ := fracB pp (hx.nb pp) hz10
  have hj := hx.j
  rw [frac0] at b1 b2 b3 ⊢
  simp only at b1 b2 b3 ⊢
  refine ⟨hp, by omega, b1.mono, b2.mono, by rw [hi_pow hp.1]; omega, by rw [hi_pow hp.1]; omega, fun _ => by rw [hi_pow hp.1]; omega⟩
theorem t_20 {E : En} {p : Int} {x : Nm} (hp : Pr p) (hx : Vn p x) (hT : Tn E) (c2 c5 c6 c7 c8 c9 c10 c11 c12 c13 c14 c15 c16 c17 c18 c19 c20 c21 c22 c23 : Cell) :
    wS gsL s_law_20 E [.un, .sh stTok, c2, .sh (.int p), .sh (tri x), c5, c6, c7, c8, c9, c10, c11, c12, c13, c14, c15, c16, c17, c18, c19, c20, c21, c22, c23] := by
  have pp := Pr.pp hp
  have nb := hx.nb pp
  have d0 := hx.d0; have d1 := hx.d1; have s0 := hx.s0; have s1 := hx.s1; have e1 := hx.e1
  have ex : endF x = x.2.1 + x.2.2 := rfl
  simp [s_law_20]
  refine ⟨⟨by omega, small_log (by omega)⟩, fun a a0 a1 => ?_⟩
  simp [s_law_19]
  split
  · simp [pp, nb, hz10, Pmd.frac hp hx (show endF x - a ≤ 200 by omega), cut_ok hp.1]
    exact ⟨by omega, t_18 hp hx hT ..⟩
  · exact t_18 hp hx hT ..
/-- what the sum of two numbers wants -/
theorem Vn.psum {p : Int} (hp : Pr p) {x y : Nm} (hx : Vn p x) (hy : Vn p y) {g : Int} (hg : g = 1 ∨ g = -1) : Psum p x y g := by
  have pp := Pr.pp hp
  obtain ⟨b1, b2, b3⟩ := fracB pp (hx.nb pp) hz10
  obtain ⟨a1, a2, a3⟩ := fracB pp (hy.nb pp) hz10
  have hj := hx.j
  have hk := hy.j
  have ex : endF x = x.2.1 + x.2.2 := rfl
  have e1 := hx.e1
  have bB : lsumF_B p x y = p ^ (jF x + jF y) := sum_B x y
  have bA : B 100000 (lsumF_A p x y g) := by
    have h1 : B 80001 (g * (fracF p y 0).1 * (fracF p x 0).2) := (((B.of (k := 1) (show g.natAbs < 2 ^ 1 by omega)).mul a1).mul b2).mono
    exact ((b1.mul a2).mono (l := 80001) |>.add h1).mono
  have hh : hi p (lsumF_B p x y) = jF x + jF y := by rw [bB]; exact hi_pow hp.1 _
  refine ⟨pp, hx.nb pp, hy.nb pp, hg, hp, by rw [bB]; exact pne hp.1 _, bA, ?_, by omega, by omega, fun _ => by omega⟩
  rw [bB]; exact pp.pow (by omega)
theorem t_23 {E : En} {p : Int} {x y : Nm} (hp : Pr p) (hx : Vn p x) (hy : Vn p y) (hT : Tn E) (a b : Int) (ha : B 100000 a) (hb : B 100000 b) (hb0 : b ≠ 0) (h1 : lhasF p x a b = true) (c2 c6 c7 c10 c11 c12 c13 c14 c15 c16 c17 c18 c19 c20 c21 c22 c23 : Cell) :
    wS gsL s_law_23 E [.un, .sh stTok, c2, .sh (.int p), .sh (tri x), .sh (tri y), c6, c7, .sh (.int a), .sh (.int b), c10, c11, c12, c13, c14, c15, c16, c17, c18, c19, c20, c21, c22, c23] := by
  have pp := Pr.pp hp
  have nb := hx.nb pp
  have mb := hy.nb pp
  have nn : Nb (negF p y) := by
    rw [neg_ok hp.1 hy]
    refine ⟨B.emod (pp.pow (by have := hy.d1; omega)) (pw0 pp _), mb.s0, mb.s1, mb.d0, mb.d1⟩
  have hm : Nb (negF p x) := by
    rw [neg_ok hp.1 hx]
    refine ⟨B.emod (pp.pow (by have := hx.d1; omega)) (pw0 pp _), nb.s0, nb.s1, nb.d0, nb.d1⟩
  obtain ⟨b1, b2, b3⟩ := fracB pp nb hz10
  obtain ⟨a1, a2, a3⟩ := fracB pp mb hz10
  simp [s_law_23, pp, nb, mb, ha, hb, hb0, has_lhas hp.1 _ _ hb0, h1]
  simp [s_law_22]
  split
  · rename_i hl
    simp [s_law_21, pp, nb, mb, nn, hz10, b1.mono (l := 100000), b2.mono (l := 100000)]
    refine ⟨by omega, ?_⟩
    rw [if_pos (agree_ok hp.1 hy x y (.inl ⟨rfl, rfl, hl⟩))]
    exact t_20 hp hx hT ..
  · rename_i hl
    simp [s_law_21, pp, nb, mb, nn, hz10, a1.mono (l := 100000), a2.mono (l := 100000)]
    refine ⟨by omega, ?_⟩
    rw [if_pos (agree_ok hp.1 hy y x (.inr ⟨rfl, rfl, by omega⟩))]
    exact t_20 hp hx hT ..
theorem pow_le {p : Int} (hp : 2 ≤ p) {a b : Nat} (h : a ≤ b) : p ^ a ≤ p ^ b := by
  have h1 : p ^ b = p ^ a * p ^ (b - a) := by rw [← Int.pow_add]; congr 1; omega
  have h2 := Nu.pow_pos hp (b - a)
  have h3 := Nu.pow_pos hp a
  rw [h1]
  have := Int.mul_le_mul_of_nonneg_left (show 1 ≤ p ^ (b - a) by omega) (Int.le_of_lt h3)
  omega
theorem settled_nb {p : Int} (hp : Pp p) {w s e : Int} (s0 : -100 ≤ s) (s1 : s ≤ 100) (e0 : -100 ≤ e) (e1 : e ≤ 160) : Nb (settledF p w s e) := by
  unfold settledF
  split
  · exact ⟨Nat.pow_pos (by decide), by simp only; omega, by simp only; omega, by simp only; omega, by simp only; omega⟩
  · split
    · exact ⟨Nat.pow_pos (by decide), by simp only; omega, by simp only; omega, by simp only; omega, by simp only; omega⟩
    · rename_i h1 h2
      have h3 := Int.emod_nonneg w (pne hp.1 (e - s).toNat)
      have h4 := Int.emod_lt_of_pos w (Nu.pow_pos hp.1 (e - s).toNat)
      have h5 : (hi p (w % p ^ (e - s).toNat) : Int) < e - s := by
        have hd := (hi_dvd hp.1 h2 _).mp (Nat.le_refl _)
        have h6 := Int.le_of_dvd (by omega) hd
        by_cases hc : (e - s).toNat ≤ hi p (w % p ^ (e - s).toNat)
        · have h7 := pow_le hp.1 hc
          omega
        · omega
      have h8 : B 3000 (w % p ^ (e - s).toNat) := B.emod (hp.pow (by omega)) (Nu.pow_pos hp.1 _)
      exact ⟨h8.ediv, by simp only; omega, by simp only; omega, by simp only; omega, by simp only; omega⟩
theorem Vn.min0 {p : Int} {x y : Nm} (hx : Vn p x) (hy : Vn p y) : -100 ≤ min x.2.1 y.2.1 ∧ min x.2.1 y.2.1 ≤ 100 ∧ -100 ≤ min (endF x) (endF y) ∧ min (endF x) (endF y) ≤ 160 := by
  have := hx.s0; have := hx.s1; have := hx.d0; have := hx.e1
  have := hy.s0; have := hy.s1; have := hy.d0; have := hy.e1
  unfold endF
  omega
theorem t_26 {E : En} {p : Int} {x y : Nm} (hp : Pr p) (hx : Vn p x) (hy : Vn p y) (hT : Tn E) (c2 c6 c7 c8 c9 c10 c11 c12 c13 c14 c15 c16 c17 c18 c19 c20 c21 c22 c23 : Cell) :
    wS gsL s_law_26 E [.un, .sh stTok, c2, .sh (.int p), .sh (tri x), .sh (tri y), c6, c7, c8, c9, c10, c11, c12, c13, c14, c15, c16, c17, c18, c19, c20, c21, c22, c23] := by
  have pp := Pr.pp hp
  have nb := hx.nb pp
  have mb := hy.nb pp
  have ns : Nb (lsumF p x y 1) := by
    obtain ⟨m0, m1, m2, m3⟩ := hx.min0 hy
    rw [sum_settled hp.1]
    exact settled_nb pp m0 m1 m2 m3
  have ps := hx.psum hp hy (g := 1) (.inl rfl)
  have np : Nb (lprodF p x y) := by
    rw [prod_eq hx.d0 hy.d0]
    have := hx.s0; have := hx.s1; have := hx.d0; have := hx.d1
    have := hy.s0; have := hy.s1; have := hy.d0; have := hy.d1
    exact ⟨B.emod (pp.pow (by omega)) (Nu.pow_pos hp.1 _), by simp only; omega, by simp only; omega, by simp only; omega, by simp only; omega⟩
  have bx : B 9000 x.1 := nb.u.mono
  have bY : B 9000 y.1 := mb.u.mono
  have c0 := hx.d0; have c1 := hy.d0; have c4 : x.2.2 ≤ 400 := nb.d1
  simp [s_law_26]
  refine ⟨small_log (n := 5) (by decide), fun m m0 m1 => ⟨⟨pp, nb, ?_⟩, ?_⟩⟩
  · exact B.of (Nat.lt_of_le_of_lt (show m.natAbs ≤ 5 by omega) (by decide))
  have hm : B 10 m := B.of (Nat.lt_of_le_of_lt (show m.natAbs ≤ 5 by omega) (by decide))
  simp [s_law_25]
  refine ⟨small_log (n := 5) (by decide), fun k k0 k1 => ?_⟩
  have hk : B 10 k := B.of (Nat.lt_of_le_of_lt (show k.natAbs ≤ 5 by omega) (by decide))
  obtain ⟨b1, b2, b3⟩ := fracB pp nb hm
  obtain ⟨a1, a2, a3⟩ := fracB pp mb hk
  have q1 := sum_has hp.1 c0 c1 m k
  have q2 := prod_has hp.1 c0 c1 m k
  have q3 : B 100000 ((fracF p x m).1 * (fracF p y k).2 + (fracF p y k).1 * (fracF p x m).2) := ((b1.mul a2).add (a1.mul b2)).mono
  have q4 : B 100000 ((fracF p x m).2 * (fracF p y k).2) := (b2.mul a2).mono
  have q5 : B 100000 ((fracF p x m).1 * (fracF p y k).1) := (b1.mul a1).mono
  have q6 : ¬ (fracF p x m).2 = 0 := by omega
  have q7 : ¬ (fracF p y k).2 = 0 := by omega
  simp [pp, mb, hk, s_law_24, ps, ns, np, mulB b1 a2, mulB a1 b2, mulB b2 a2, mulB b1 a1, bx, bY, c0, c1, c4, q1, q2, q3, q4, q5, q6, q7]
  exact t_23 hp hx hy hT _ _ b1.mono b2.mono q6 (has_self hp.1 x c0 m) ..
theorem Vn.bz {p : Int} (hp : Pr p) {y : Nm} (hy : Vn p y) (h : 0 < y.2.2) : Bz y.1 p := hp.2.2 _ (hy.u h).2.2
theorem t_29 {E : En} {p : Int} {x y : Nm} (hp : Pr p) (hx : Vn p x) (hy : Vn p y) (hT : Tn E) (c2 c6 c7 c8 c9 c10 c11 c12 c13 c14 c15 c16 c17 c18 c19 c20 c21 c22 c23 : Cell) :
    wS gsL s_law_29 E [.un, .sh stTok, c2, .sh (.int p), .sh (tri x), .sh (tri y), c6, c7, c8, c9, c10, c11, c12, c13, c14, c15, c16, c17, c18, c19, c20, c21, c22, c23] := by
  have pp := Pr.pp hp
  have nb := hx.nb pp
  have mb := hy.nb pp
  have bx : B 9000 x.1 := nb.u.mono
  have bY : B 9000 y.1 := mb.u.mono
  have c0 := hx.d0; have c1 := hy.d0; have c4 : x.2.2 ≤ 400 := nb.d1
  have nn : Nb (negF p y) := by
    rw [neg_ok hp.1 hy]
    refine ⟨B.emod (pp.pow (by have := hy.d1; omega)) (pw0 pp _), mb.s0, mb.s1, mb.d0, mb.d1⟩
  simp [s_law_29, pp, hx.isF]
  simp [s_law_28, pp, nb, mb, nn, hx.psum hp hy (g := 1) (.inl rfl), hx.psum hp hy (g := -1) (.inr rfl), plus_ok hp.1, minus_ok hp.1 hy, times_ok c0 c1, bx, bY, c0, c1, c4]
  simp [s_law_27]
  split
  · rename_i hd
    have z := hy.bz hp hd
    have po : Pov p x y := ⟨pp, bx, c4, z.pow _, by omega, by omega, by have := hy.d1; omega⟩
    have pq : Pquo p x y := ⟨pp, bx, z.pow _, c4, c0, c1⟩
    simp [po, pq, over_ok hp.1 c0 hd z]
    exact t_26 hp hx hy hT ..
  · exact t_26 hp hx hy hT ..
/-- near a number: the same to a lesser end -/
theorem near_vn {p : Int} (hp : Pr p) {x : Nm} (hx : Vn p x) {e t : Int} (e0 : -100 ≤ e) (e1 : e ≤ 100) (t0 : 0 ≤ t) (t1 : t < 2) :
    Pmd p ((fracF p x 0).1 + t * (fracF p x 0).2 * p ^ (max 0 e).toNat) (fracF p x 0).2 e ∧ Vn p (lmF p ((fracF p x 0).1 + t * (fracF p x 0).2 * p ^ (max 0 e).toNat) (fracF p x 0).2 e) := by
  have pp := Pr.pp hp
  obtain ⟨b1, b2, b3⟩ := fracB pp (hx.nb pp) hz10
  have hj := hx.j
  have hn := nF_eq x
  have s0 := hx.s0
  have bt : B 1 t := B.of (show t.natAbs < 2 ^ 1 by omega)
  have bA : B 50000 ((fracF p x 0).1 + t * (fracF p x 0).2 * p ^ (max 0 e).toNat) := (b1.mono (l := 49999)).add (((bt.mul b2).mul (pp.pow (n := (max 0 e).toNat) (k := 1000) (by omega))).mono)
  generalize hA : (fracF p x 0).1 + t * (fracF p x 0).2 * p ^ (max 0 e).toNat = A at bA ⊢
  have hl : A ≠ 0 → -100 ≤ (hi p A : Int) - jF x := fun h0 => by
    have hd : p ^ (min (nF x) (jF x + (max 0 e).toNat)) ∣ A := by
      rw [← hA, frac0]
      simp only
      refine Int.dvd_add (Int.dvd_trans ⟨p ^ (nF x - min (nF x) (jF x + (max 0 e).toNat)), ?_⟩ (Int.dvd_mul_right _ _)) (Int.dvd_trans (b := p ^ jF x * p ^ (max 0 e).toNat) ⟨p ^ (jF x + (max 0 e).toNat - min (nF x) (jF x + (max 0 e).toNat)), ?_⟩ ⟨t, by grind⟩)
      · rw [← Int.pow_add]; congr 1; omega
      · rw [← Int.pow_add, ← Int.pow_add]; congr 1; omega
    have := (hi_dvd hp.1 h0 _).mpr hd
    omega
  rw [frac0] at b2 b3 ⊢
  simp only at b2 b3 ⊢
  refine ⟨⟨hp, by omega, bA.mono, b2.mono, by rw [hi_pow hp.1]; omega, by rw [hi_pow hp.1]; omega, fun _ => by rw [hi_pow hp.1]; omega⟩, lm_vn hp e0 e1 hl⟩
theorem t_31 {E : En} {p : Int} {x y : Nm} (hp : Pr p) (hx : Vn p x) (hy : Vn p y) (hT : Tn E) (c2 c6 c7 c8 c9 c10 c11 c12 c13 c14 c15 c16 c17 c18 c19 c20 c21 c22 c23 : Cell) :
    wS gsL s_law_31 E [.un, .sh stTok, c2, .sh (.int p), .sh (tri x), .sh (tri y), c6, c7, c8, c9, c10, c11, c12, c13, c14, c15, c16, c17, c18, c19, c20, c21, c22, c23] := by
  have pp := Pr.pp hp
  have nb := hx.nb pp
  have d0 := hx.d0; have d1 := hx.d1
  simp [s_law_31]
  refine ⟨small_log (n := 4) (by decide), fun k k0 k1 => ?_⟩
  simp [s_law_30]
  split
  · simp [s_law_3]
    refine ⟨⟨by omega, small_log (by omega)⟩, fun e e0 e1 => ?_⟩
    simp [s_law_2, pp, nb, hz10]
    simp [s_law_1, pp]
    by_cases h1 : -100 ≤ x.2.1 + e
    · by_cases h2 : x.2.1 + e ≤ 100
      · simp [h1, h2]
        refine ⟨small_log (n := 2) (by decide), fun t t0 t1 => ?_⟩
        obtain ⟨b1, b2, b3⟩ := fracB pp nb hz10
        have bt : B 1 t := B.of (show t.natAbs < 2 ^ 1 by omega)
        obtain ⟨n1, n2⟩ := near_vn hp hx h1 h2 t0 t1
        refine ⟨mulB bt b2, ⟨by omega, by omega⟩, mulB (bt.mul b2) (pp.pow (n := (max 0 (x.2.1 + e)).toNat) (k := 1000) (by omega)), n1, ?_⟩
        exact t_29 hp hx n2 hT ..
      · simp [h1, h2]
        exact t_29 hp hx hx hT ..
    · simp [h1]
      exact t_29 hp hx hx hT ..
  · exact t_29 hp hx hy hT ..
theorem t_33 {E : En} (hT : Tn E) (c2 c3 c4 c5 c6 c7 c8 c9 c10 c11 c12 c13 c14 c15 c16 c17 c18 c19 c20 c21 c22 c23 : Cell) :
    wS gsL s_law_33 E [.un, .sh stTok, c2, c3, c4, c5, c6, c7, c8, c9, c10, c11, c12, c13, c14, c15, c16, c17, c18, c19, c20, c21, c22, c23] := by
  simp [s_law_33, -List.mem_cons, -List.forall_mem_cons]
  intro d hd
  obtain ⟨p, rfl, hp⟩ : ∃ p : Int, d = .int p ∧ Pr p := by
    simp only [List.mem_cons, List.not_mem_nil, or_false] at hd
    rcases hd with h | h | h | h | h | h | h
    · exact ⟨_, h, pr2⟩
    · exact ⟨_, h, pr2⟩
    · exact ⟨_, h, pr3⟩
    · exact ⟨_, h, pr5⟩
    · exact ⟨_, h, pr7⟩
    · exact ⟨_, h, pr31⟩
    · exact ⟨_, h, pr97⟩
  have pp := Pr.pp hp
  simp [s_law_32, pp]
  intro a b c hx a' b' c' hy
  exact t_31 (x := (a, b, c)) (y := (a', b', c')) hp hx hy hT ..
theorem law_ok : wS gsL s_law ⟨fun _ => False, fun d => d = .bool true⟩ (.un :: .sh stTok :: List.replicate 22 .un) := by
  show wS gsL s_law_35 _ [.un, .sh stTok, .un, .un, .un, .un, .un, .un, .un, .un, .un, .un, .un, .un, .un, .un, .un, .un, .un, .un, .un, .un, .un, .un]
  simp [s_law_35]
  refine ⟨⟨by decide, by decide⟩, ?_⟩
  refine for_rng (fun k ρ => ∃ c2 c3 c4 c5 c6 c7 c8 c9 c10 c11 c12 c13 c14 c15 c16 c17 c18 c19 c20 c21 c22 c23 : Cell, ρ = [.un, .sh stTok, c2, c3, c4, c5, c6, c7, c8, c9, c10, c11, c12, c13, c14, c15, c16, c17, c18, c19, c20, c21, c22, c23]) ⟨_, _, _, _, _, _, _, _, _, _, _, _, _, _, _, _, _, _, _, _, _, _, rfl⟩ ?_ ?_
  · rintro k ρ R hk ⟨c2, c3, c4, c5, c6, c7, c8, c9, c10, c11, c12, c13, c14, c15, c16, c17, c18, c19, c20, c21, c22, c23, rfl⟩ hR
    refine t_33 (fun c2 c3 c4 c5 c6 c7 c8 c9 c10 c11 c12 c13 c14 c15 c16 c17 c18 c19 c20 c21 c22 c23 => hR _ ⟨_, _, _, _, _, _, _, _, _, _, _, _, _, _, _, _, _, _, _, _, _, _, rfl⟩) ..
  · rintro ρ ⟨c2, c3, c4, c5, c6, c7, c8, c9, c10, c11, c12, c13, c14, c15, c16, c17, c18, c19, c20, c21, c22, c23, rfl⟩
    simp [s_law_34]
    have nb : ∀ u d : Int, u.natAbs < 2 ^ 10 → 0 ≤ d → d ≤ 10 → Nb (u, 0, d) := fun u d hu h0 h1 => ⟨B.mono hu, by simp only; omega, by simp only; omega, h0, by simp only; omega⟩
    have p2 : Pp 2 := Pr.pp pr2
    have p3 : Pp 3 := Pr.pp pr3
    have p5 : Pp 5 := Pr.pp pr5
    refine ⟨⟨p2, nb _ _ (by decide) (by decide) (by decide)⟩, by decide +kernel, ⟨p3, nb _ _ (by decide) (by decide) (by decide), nb _ _ (by decide) (by decide) (by decide), ?_⟩, by decide +kernel, ⟨p5, nb _ _ (by decide) (by decide) (by decide), nb _ _ (by decide) (by decide) (by decide), ?_⟩, by decide +kernel⟩
    · exact settled_nb p3 (by decide) (by decide) (by decide) (by decide)
    · exact settled_nb p5 (by decide) (by decide) (by decide) (by decide)
end K05

namespace K05
open PySem PySem.Spec PyProof.Rows L2 Mp Nu
section
variable {P : Program} {w : World} {K : PySem.W.Frag} {mg : Str → Option Value} {base : Heap}
theorem o_law_draw (c : Cx5 K mg) (C : MC) (hC : C.K = K) : Cl P w K mg base 1 "_law_draw" (liftSp C spDraw) := ok_draw c C hC 0
theorem o_raised (c : Cx5 K mg) (C : MC) (hC : C.K = K) : Cl P w K mg base 1 "raised" (liftSp C sp_raised) :=
  fn_okD (T := ⟨g_raised, [], cns, false, false⟩) 0 hC c.raised sc_raised c.fx .nil (m_raised _) (fun ds Q h => match ds, h.1 with | [.int _, .int _], _ => rfl) w_raised
theorem o_divided_out (c : Cx5 K mg) (C : MC) (hC : C.K = K) : Cl P w K mg base 1 "divided_out" (liftSp C sp_divided_out) :=
  fn_okD (T := ⟨g_divided_out, [], cns, false, false⟩) 0 hC c.divided_out sc_divided_out c.fx .nil (m_divided_out _) (fun ds Q h => match ds, h.1 with | [.int _, .int _], _ => rfl) w_divided_out
theorem o_back_of (c : Cx5 K mg) (C : MC) (hC : C.K = K) : Cl P w K mg base 1 "back_of" (liftSp C sp_back_of) :=
  fn_okD (T := ⟨g_back_of, [], cns, false, false⟩) 0 hC c.back_of sc_back_of c.fx .nil (m_back_of _) (fun ds Q h => match ds, h.1 with | [.int _, .int _], _ => rfl) w_back_of
theorem o_end_of (c : Cx5 K mg) (C : MC) (hC : C.K = K) : Cl P w K mg base 1 "end_of" (liftSp C sp_end_of) :=
  fn_okD (T := ⟨g_end_of, [], cns, false, false⟩) 0 hC c.end_of sc_end_of c.fx .nil (m_end_of _) (fun ds Q h => match ds, h.1 with | [.tuple [.int _, .int _, .int _]], _ => rfl) w_end_of
theorem o_minus_fraction (c : Cx5 K mg) (C : MC) (hC : C.K = K) : Cl P w K mg base 1 "minus_fraction" (liftSp C sp_minus_fraction) :=
  fn_okD (T := ⟨g_minus_fraction, [], cns, false, false⟩) 0 hC c.minus_fraction sc_minus_fraction c.fx .nil (m_minus_fraction _) (fun ds Q h => match ds, h.1 with | [.int _, .int _, .int _, .int _], _ => rfl) w_minus_fraction
theorem o_height (c : Cx5 K mg) (C : MC) (hC : C.K = K) : Cl P w K mg base 2 "height" (liftSp C sp_height) :=
  fn_okD (T := ⟨g_height, [sp_divided_out], cns, false, false⟩) 1 hC c.height sc_height c.fx (.cons (o_divided_out c C hC) (by decide) .nil) (m_height _) (fun ds Q h => match ds, h.1 with | [.int _, .int _, .int _], _ => rfl) w_height
theorem o_is_number (c : Cx5 K mg) (C : MC) (hC : C.K = K) : Cl P w K mg base 2 "is_number" (liftSp C sp_is_number) :=
  fn_okD (T := ⟨g_is_number, [sp_raised], cns, false, false⟩) 1 hC c.is_number sc_is_number c.fx (.cons (o_raised c C hC) (by decide) .nil) (m_is_number _) (fun ds Q h => match ds, h.1 with | [.int _, .tuple [.int _, .int _, .int _]], _ => rfl) w_is_number
theorem o_settled (c : Cx5 K mg) (C : MC) (hC : C.K = K) : Cl P w K mg base 2 "settled" (liftSp C sp_settled) :=
  fn_okD (T := ⟨g_settled, [sp_divided_out, sp_raised], cns, false, false⟩) 1 hC c.settled sc_settled c.fx (.cons (o_divided_out c C hC) (by decide) (.cons (o_raised c C hC) (by decide) .nil)) (m_settled _) (fun ds Q h => match ds, h.1 with | [.int _, .int _, .int _, .int _], _ => rfl) w_settled
theorem o_value_of (c : Cx5 K mg) (C : MC) (hC : C.K = K) : Cl P w K mg base 2 "value_of" (liftSp C sp_value_of) :=
  fn_okD (T := ⟨g_value_of, [sp_raised], cns, false, false⟩) 1 hC c.value_of sc_value_of c.fx (.cons (o_raised c C hC) (by decide) .nil) (m_value_of _) (fun ds Q h => match ds, h.1 with | [.int _, .tuple [.int _, .int _, .int _]], _ => rfl) w_value_of
theorem o_times (c : Cx5 K mg) (C : MC) (hC : C.K = K) : Cl P w K mg base 2 "times" (liftSp C sp_times) :=
  fn_okD (T := ⟨g_times, [sp_raised], cns, false, false⟩) 1 hC c.times sc_times c.fx (.cons (o_raised c C hC) (by decide) .nil) (m_times _) (fun ds Q h => match ds, h.1 with | [.int _, .tuple [.int _, .int _, .int _], .tuple [.int _, .int _, .int _]], _ => rfl) w_times
theorem o_made (c : Cx5 K mg) (C : MC) (hC : C.K = K) : Cl P w K mg base 3 "made" (liftSp C sp_made) :=
  fn_okD (T := ⟨g_made, [sp_divided_out, sp_raised, sp_settled, sp_back_of], cns, false, false⟩) 2 hC c.made sc_made c.fx (.cons (o_divided_out c C hC) (by decide) (.cons (o_raised c C hC) (by decide) (.cons (o_settled c C hC) (by decide) (.cons (o_back_of c C hC) (by decide) .nil)))) (m_made _) (fun ds Q h => match ds, h.1 with | [.int _, .int _, .int _, .int _], _ => rfl) w_made
theorem o_has (c : Cx5 K mg) (C : MC) (hC : C.K = K) : Cl P w K mg base 3 "has" (liftSp C sp_has) :=
  fn_okD (T := ⟨g_has, [sp_value_of, sp_minus_fraction, sp_height, sp_end_of], cns, false, false⟩) 2 hC c.has sc_has c.fx (.cons (o_value_of c C hC) (by decide) (.cons (o_minus_fraction c C hC) (by decide) (.cons (o_height c C hC) (by decide) (.cons (o_end_of c C hC) (by decide) .nil)))) (m_has _) (fun ds Q h => match ds, h.1 with | [.int _, .tuple [.int _, .int _, .int _], .int _, .int _], _ => rfl) w_has
theorem o_plus (c : Cx5 K mg) (C : MC) (hC : C.K = K) : Cl P w K mg base 3 "plus" (liftSp C sp_plus) :=
  fn_okD (T := ⟨g_plus, [sp_settled, sp_raised, sp_end_of], cns, false, false⟩) 2 hC c.plus sc_plus c.fx (.cons (o_settled c C hC) (by decide) (.cons (o_raised c C hC) (by decide) (.cons (o_end_of c C hC) (by decide) .nil))) (m_plus _) (fun ds Q h => match ds, h.1 with | [.int _, .tuple [.int _, .int _, .int _], .tuple [.int _, .int _, .int _]], _ => rfl) w_plus
theorem o_negative (c : Cx5 K mg) (C : MC) (hC : C.K = K) : Cl P w K mg base 3 "negative" (liftSp C sp_negative) :=
  fn_okD (T := ⟨g_negative, [sp_settled, sp_end_of], cns, false, false⟩) 2 hC c.negative sc_negative c.fx (.cons (o_settled c C hC) (by decide) (.cons (o_end_of c C hC) (by decide) .nil)) (m_negative _) (fun ds Q h => match ds, h.1 with | [.int _, .tuple [.int _, .int _, .int _]], _ => rfl) w_negative
theorem o_cut (c : Cx5 K mg) (C : MC) (hC : C.K = K) : Cl P w K mg base 3 "cut" (liftSp C sp_cut) :=
  fn_okD (T := ⟨g_cut, [sp_settled], cns, false, false⟩) 2 hC c.cut sc_cut c.fx (.cons (o_settled c C hC) (by decide) .nil) (m_cut _) (fun ds Q h => match ds, h.1 with | [.int _, .tuple [.int _, .int _, .int _], .int _], _ => rfl) w_cut
theorem o_over (c : Cx5 K mg) (C : MC) (hC : C.K = K) : Cl P w K mg base 3 "over" (liftSp C sp_over) :=
  fn_okD (T := ⟨g_over, [sp_times, sp_back_of, sp_raised], cns, false, false⟩) 2 hC c.over sc_over c.fx (.cons (o_times c C hC) (by decide) (.cons (o_back_of c C hC) (by decide) (.cons (o_raised c C hC) (by decide) .nil))) (m_over _) (fun ds Q h => match ds, h.1 with | [.int _, .tuple [.int _, .int _, .int _], .tuple [.int _, .int _, .int _]], _ => rfl) w_over
theorem o_power (c : Cx5 K mg) (C : MC) (hC : C.K = K) : Cl P w K mg base 3 "power" (liftSp C sp_power) :=
  fn_okD (T := ⟨g_power, [sp_times], cns, false, false⟩) 2 hC c.power sc_power c.fx (.cons (o_times c C hC) (by decide) .nil) (m_power _) (fun ds Q h => match ds, h.1 with | [.int _, .tuple [.int _, .int _, .int _], .int _], _ => rfl) w_power
theorem o_minus (c : Cx5 K mg) (C : MC) (hC : C.K = K) : Cl P w K mg base 4 "minus" (liftSp C sp_minus) :=
  fn_okD (T := ⟨g_minus, [sp_plus, sp_negative], cns, false, false⟩) 3 hC c.minus sc_minus c.fx (.cons (o_plus c C hC) (by decide) (.cons (o_negative c C hC) (by decide) .nil)) (m_minus _) (fun ds Q h => match ds, h.1 with | [.int _, .tuple [.int _, .int _, .int _], .tuple [.int _, .int _, .int _]], _ => rfl) w_minus
theorem o_agree (c : Cx5 K mg) (C : MC) (hC : C.K = K) : Cl P w K mg base 5 "agree" (liftSp C sp_agree) :=
  fn_okD (T := ⟨g_agree, [sp_minus], cns, false, false⟩) 4 hC c.agree sc_agree c.fx (.cons (o_minus c C hC) (by decide) .nil) (m_agree _) (fun ds Q h => match ds, h.1 with | [.int _, .tuple [.int _, .int _, .int _], .tuple [.int _, .int _, .int _]], _ => rfl) w_agree
theorem o_law_power (c : Cx5 K mg) (C : MC) (hC : C.K = K) : Cl P w K mg base 1 "_law_power" (liftSp C sp_raised) :=
  fn_okD (T := ⟨g_law_power, [], cns, false, false⟩) 0 hC c.law_power sc_law_power c.fx .nil (m_law_power _) (fun ds Q h => match ds, h.1 with | [.int _, .int _], _ => rfl) w_law_power
theorem o_law_high (c : Cx5 K mg) (C : MC) (hC : C.K = K) : Cl P w K mg base 1 "_law_high" (liftSp C sp_law_high) :=
  fn_okD (T := ⟨g_law_high, [], cns, false, false⟩) 0 hC c.law_high sc_law_high c.fx .nil (m_law_high _) (fun ds Q h => match ds, h.1 with | [.int _, .int _], _ => rfl) w_law_high
theorem o_law_back (c : Cx5 K mg) (C : MC) (hC : C.K = K) : Cl P w K mg base 1 "_law_back" (liftSp C sp_law_back) :=
  fn_okD (T := ⟨g_law_back, [], cns, false, false⟩) 0 hC c.law_back sc_law_back c.fx .nil (m_law_back _) (fun ds Q h => match ds, h.1 with | [.int _, .int _], _ => rfl) w_law_back
theorem o_law_end (c : Cx5 K mg) (C : MC) (hC : C.K = K) : Cl P w K mg base 1 "_law_end" (liftSp C sp_law_end) :=
  fn_okD (T := ⟨g_law_end, [], cns, false, false⟩) 0 hC c.law_end sc_law_end c.fx .nil (m_law_end _) (fun ds Q h => match ds, h.1 with | [.tuple [.int _, .int _, .int _]], _ => rfl) w_law_end
theorem o_law_pick (c : Cx5 K mg) (C : MC) (hC : C.K = K) : Cl P w K mg base 2 "_law_pick" (liftSp C sp_law_pick) :=
  fn_okD (T := ⟨g_law_pick, [spDraw], cns, false, false⟩) 1 hC c.law_pick sc_law_pick c.fx (.cons (o_law_draw c C hC) (by decide) .nil) (m_law_pick _) (fun ds Q h => match ds, h.1 with | [_, .list _], _ => rfl) w_law_pick
theorem o_law_fraction (c : Cx5 K mg) (C : MC) (hC : C.K = K) : Cl P w K mg base 2 "_law_fraction" (liftSp C sp_law_fraction) :=
  fn_okD (T := ⟨g_law_fraction, [sp_law_end, sp_raised], cns, false, false⟩) 1 hC c.law_fraction sc_law_fraction c.fx (.cons (o_law_end c C hC) (by decide) (.cons (o_law_power c C hC) (by decide) .nil)) (m_law_fraction _) (fun ds Q h => match ds, h.1 with | [.int _, .tuple [.int _, .int _, .int _], .int _], _ => rfl) w_law_fraction
theorem o_law_made (c : Cx5 K mg) (C : MC) (hC : C.K = K) : Cl P w K mg base 2 "_law_made" (liftSp C sp_law_made) :=
  fn_okD (T := ⟨g_law_made, [sp_raised, sp_law_high, sp_law_back], cns, false, false⟩) 1 hC c.law_made sc_law_made c.fx (.cons (o_law_power c C hC) (by decide) (.cons (o_law_high c C hC) (by decide) (.cons (o_law_back c C hC) (by decide) .nil))) (m_law_made _) (fun ds Q h => match ds, h.1 with | [.int _, .int _, .int _, .int _], _ => rfl) w_law_made
theorem o_law_has (c : Cx5 K mg) (C : MC) (hC : C.K = K) : Cl P w K mg base 3 "_law_has" (liftSp C sp_law_has) :=
  fn_okD (T := ⟨g_law_has, [sp_law_fraction, sp_law_end, sp_law_high], cns, false, false⟩) 2 hC c.law_has sc_law_has c.fx (.cons (o_law_fraction c C hC) (by decide) (.cons (o_law_end c C hC) (by decide) (.cons (o_law_high c C hC) (by decide) .nil))) (m_law_has _) (fun ds Q h => match ds, h.1 with | [.int _, .tuple [.int _, .int _, .int _], .int _, .int _], _ => rfl) w_law_has
theorem o_law_number (c : Cx5 K mg) (C : MC) (hC : C.K = K) : Cl P w K mg base 3 "_law_number" (liftSp C sp_law_number) :=
  fn_okD (T := ⟨g_law_number, [sp_law_pick, spDraw, sp_raised], cns, false, false⟩) 2 hC c.law_number sc_law_number c.fx (.cons (o_law_pick c C hC) (by decide) (.cons (o_law_draw c C hC) (by decide) (.cons (o_law_power c C hC) (by decide) .nil))) (m_law_number _) (fun ds Q h => match ds, h.1 with | [_, .int _], _ => rfl) w_law_number
theorem o_law_sum (c : Cx5 K mg) (C : MC) (hC : C.K = K) : Cl P w K mg base 3 "_law_sum" (liftSp C sp_law_sum) :=
  fn_okD (T := ⟨g_law_sum, [sp_law_made, sp_law_end, sp_law_fraction], cns, false, false⟩) 2 hC c.law_sum sc_law_sum c.fx (.cons (o_law_made c C hC) (by decide) (.cons (o_law_end c C hC) (by decide) (.cons (o_law_fraction c C hC) (by decide) .nil))) (m_law_sum _) (fun ds Q h => match ds, h.1 with | [.int _, .tuple [.int _, .int _, .int _], .tuple [.int _, .int _, .int _], .int _], _ => rfl) w_law_sum
theorem o_law_product (c : Cx5 K mg) (C : MC) (hC : C.K = K) : Cl P w K mg base 2 "_law_product" (liftSp C sp_law_product) :=
  fn_okD (T := ⟨g_law_product, [sp_raised], cns, false, false⟩) 1 hC c.law_product sc_law_product c.fx (.cons (o_law_power c C hC) (by decide) .nil) (m_law_product _) (fun ds Q h => match ds, h.1 with | [.int _, .tuple [.int _, .int _, .int _], .tuple [.int _, .int _, .int _]], _ => rfl) w_law_product
theorem o_law_quotient (c : Cx5 K mg) (C : MC) (hC : C.K = K) : Cl P w K mg base 2 "_law_quotient" (liftSp C sp_law_quotient) :=
  fn_okD (T := ⟨g_law_quotient, [sp_raised, sp_law_back], cns, false, false⟩) 1 hC c.law_quotient sc_law_quotient c.fx (.cons (o_law_power c C hC) (by decide) (.cons (o_law_back c C hC) (by decide) .nil)) (m_law_quotient _) (fun ds Q h => match ds, h.1 with | [.int _, .tuple [.int _, .int _, .int _], .tuple [.int _, .int _, .int _]], _ => rfl) w_law_quotient
theorem o_law (c : Cx5 K mg) {f : Addr} {fd : FuncData} (F : FunD K "law" "law" (defArgs d_law) (defBody d_law) (defScope d_law) [] [] f fd) : FnOk P w K mg base CXn 6 f fd ["script"] (spLaw K) := by
  obtain ⟨fS, fdS, FS, hS, kS, bS⟩ := ok_state (P := P) (w := w) (base := base) c 4
  exact law_fn (st := d_law) (rest := (defBody d_law).tail) (T := ⟨g_law, gsL, cns, false, false⟩) F sc_law FS hS kS bS rfl rfl rfl rfl c.fx (fun C hC => (.cons (o_law_pick c C hC) (by decide) (.cons (o_law_draw c C hC) (by decide) (.cons (o_law_fraction c C hC) (by decide) (.cons (o_law_power c C hC) (by decide) (.cons (o_law_number c C hC) (by decide) (.cons (o_agree c C hC) (by decide) (.cons (o_law_has c C hC) (by decide) (.cons (o_law_end c C hC) (by decide) (.cons (o_plus c C hC) (by decide) (.cons (o_minus c C hC) (by decide) (.cons (o_law_made c C hC) (by decide) (.cons (o_end_of c C hC) (by decide) (.cons (o_is_number c C hC) (by decide) (.cons (o_law_sum c C hC) (by decide) (.cons (o_times c C hC) (by decide) (.cons (o_law_product c C hC) (by decide) (.cons (o_over c C hC) (by decide) (.cons (o_law_quotient c C hC) (by decide) (.cons (o_has c C hC) (by decide) (.cons (o_cut c C hC) (by decide) (.cons (o_power c C hC) (by decide) (.cons (o_made c C hC) (by decide) (.cons (o_height c C hC) (by decide) (.cons (o_law_high c C hC) (by decide) .nil))))))))))))))))))))))))) (m_law _) law_ok
end
end K05
open PySem PySem.W PySem.Calls PyProof.Rows
theorem PySem.Challenge.cw_deepdigits_k05_whole_numbers_to_great_de_holds : PySem.Challenge.rw_deepdigits_k05_whole_numbers_to_great_de.Holds := by
  w_on; o_law
  refine HandSHeadRun.head_any (r := OpenLaw.row PySem.Challenge.rw_deepdigits_k05_whole_numbers_to_great_de) (q := view (OpenLaw.row PySem.Challenge.rw_deepdigits_k05_whole_numbers_to_great_de).prog [43]) (H := K05.hk) (ob := K05.ob) (M := 3000) (loose := K05.names) (d := HandSHeadRun.topDef (OpenLaw.row PySem.Challenge.rw_deepdigits_k05_whole_numbers_to_great_de).prog 43) (kwd := []) K05.ob_eq
    (by kernel_rfl) (fun s => by kernel_rfl) K05.run (by kernel_rfl) (by kernel_rfl) (by kernel_rfl) (by rfl) (by first | assumption | decide +kernel) (by decide +kernel) ⟨rfl, rfl, rfl, rfl, rfl, by decide +kernel⟩ ?hw ?hc
  case hw => w_witness2
  case hc =>
    refine L2.walk_ofE (l := PySem.Challenge.rw_deepdigits_k05_whole_numbers_to_great_de) (n := 63) (k := 6) (x := "script") (CX := Mp.CXn) rfl (by decide) (by kernel_rfl) ⟨rfl, by decide, by decide⟩ ?F (fun _ _ _ _ z => z)
    intro w mg fa h Y G hmg0
    obtain ⟨K, KX, c⟩ := Y
    have hmg : mg ("law" : PySem.Str) = some (.ref fa) := by
      have e : (HandSHeadRun.topDef (OpenLaw.row PySem.Challenge.rw_deepdigits_k05_whole_numbers_to_great_de).prog 43).name = ("law" : PySem.Str) := by kernel_rfl
      rw [← e]
      exact hmg0
    have cx := K05.facts KX G c
    obtain ⟨f, fd, F, hf, _⟩ := cx.law.ex
    have ef := hmg.symm.trans hf
    cases ef
    have b := L2.FunD.bindsA (ps := ["script"]) F fun _ _ _ _ _ _ us hl => match us, hl with | [_], _ => rfl
    exact ⟨K, fd, Mp.spLaw K, KX, fun s v => b s [v] rfl, fun H a ns hl _ hS => ⟨a, ns, rfl, hS, hl, fun _ => rfl⟩, fun base _ _ => K05.o_law cx F⟩

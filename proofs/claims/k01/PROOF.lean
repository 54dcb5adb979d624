import PyProof.Rows.All
import Wide.All
import OpenK.AllK
import Wide.FinOn
import PySem.Challenge.RW_shelfwishes_k01_askers_recognized
import HandS.ForMost
import HandS.IsInst
import HandS.Deep
import HandS.Style
import HandS.Flow
import HandS.TupAny
import HandS.TupMul
import HandS.Codes
import HandS.Conv
import HandS.Zip
import HandS.Wide
import HandS.Walk
import HandS.StrMore
import HandS.EndBits
import KE.SortData
import KE.GoesEnum
import KE.GoesMore
import HandS.TupSets
import HandS.SetFor
set_option Elab.async false
set_option linter.all false
set_option maxRecDepth 100000
set_option autoImplicit false
/-! # A pure reading of a part of Python over PyData -/
namespace SW
open PySem PySem.Spec PyProof.Rows L2

abbrev D := PyData
/-- what a slot holds -/
inductive S where
  | no | val (d : D) | src | scr (ns : List Int) | own (ds : List D)

mutual
inductive Tg where
  | nm (i : Nat) | tp (l : Tgs)
inductive Tgs where
  | nil | cons (t : Tg) (l : Tgs)
end
inductive Ty4 where
  | int | str | tup | bool | list
  deriving DecidableEq
inductive B1 where
  | len | all | any | sum | max | min | sorted | sset | lset | tuple | list | int | str | abs
  deriving DecidableEq
inductive B2 where
  | max | min
  deriving DecidableEq
inductive Mt where
  | index | join | split | count | find | rstrip | rjust
  deriving DecidableEq

mutual
inductive Ex where
  | var (i : Nat) | glob (c : Nat) | int (i : Int) | str (x : Str) | bl (b : Bool) | non
  | tup (es : Exs) | lst (es : Exs)
  | bin (op : Operator) (a b : Ex) | neg (a : Ex) | not (a : Ex)
  | cmp (op : CmpOp) (a b : Ex) | chain (op op2 : CmpOp) (a b c : Ex)
  | bop (op : BoolOp) (es : Exs) | ite (c a b : Ex)
  | isi (a : Ex) (t : Ty4)
  | b1 (f : B1) (a : Ex) | b2 (f : B2) (a b : Ex)
  | lrng (it : It) | slen (i : Nat)
  | call (f : Nat) (es : Exs) | calls (f i : Nat) (es : Exs)
  | ix (a b : Ex)
  | slT (a hi : Ex) | slF (a lo : Ex) | slB (a lo hi : Ex) | slR (a : Ex) | sl2 (a : Ex)
  | comp (elt : Ex) (tg : Tg) (it : It) (cond : Exs) (own : List (Str × Nat))
  | mt (m : Mt) (o : Ex) (a : Ex)
inductive Exs where
  | nil | cons (e : Ex) (es : Exs)
inductive It where
  | seq (e : Ex) | rng1 (a : Ex) | rng2 (a b : Ex) | rng3 (a b c : Ex) | enum (e : Ex) | zip (a b : Ex)
end

mutual
inductive Sm where
  | set (pk : Bool) (i : Nat) (e : Ex)
  | seto (i : Nat) (e : Ex)
  | asg (tg : Tg) (e : Ex)
  | par (l : List (Nat × Bool)) (es : Exs)
  | app (pk : Bool) (i : Nat) (e : Ex)
  | seti (pk : Bool) (i : Nat) (k e : Ex)
  | expr (e : Ex)
  | ret (e : Ex) | reto (e : Ex) | retv (i : Nat) | retn
  | ife (c : Ex) (a b : Sms)
  | forr (tg : Tg) (it : It) (body : Sms)
  | whil (c : Ex) (body : Sms)
  | frz (i : Nat) (s : Sm)
  | news (i j : Nat) (e : Ex)
  | brk | cnt | pass | never
inductive Sms where
  | nil | cons (s : Sm) (l : Sms)
end

/-! ### slots -/
def getS : List S → Nat → S
  | [], _ => .no
  | s :: _, 0 => s
  | _ :: l, i + 1 => getS l i
def setS : List S → Nat → S → List S
  | [], _, _ => []
  | _ :: l, 0, s => s :: l
  | x :: l, i + 1, s => x :: setS l i s
/-- own lists seen (and frozen) or hidden -/
def seeS : Bool → S → S
  | true, .own ds => .val (.list ds)
  | false, .own _ => .no
  | _, s => s
def see (b : Bool) (ρ : List S) : List S := ρ.map (seeS b)
def wipeS (ρ : List S) : List Nat → List S
  | [] => ρ
  | v :: vs => setS (wipeS ρ vs) v .no
def killS : S → S
  | .src => .no
  | s => s
def kill (ρ : List S) : List S := ρ.map killS
def scal1 : D → Bool
  | .none | .bool _ | .int _ | .str _ => true
  | _ => false

/-! ### values -/
def asBools : List D → Option (List Bool)
  | [] => some []
  | .bool b :: l => (asBools l).map (b :: ·)
  | _ => none
def asInts : List D → Option (List Int)
  | [] => some []
  | .int b :: l => (asInts l).map (b :: ·)
  | _ => none
def asStrs : List D → Option (List Str)
  | [] => some []
  | .str b :: l => (asStrs l).map (b :: ·)
  | _ => none
def maxI : List Int → Int
  | [] => 0
  | x :: l => l.foldl max x
def minI : List Int → Int
  | [] => 0
  | x :: l => l.foldl min x
def okD (d : D) : Prop := SeqAt.shaped d = true
/-- == -/
def pEq (x y : D) (Q : Bool → Prop) : Prop := match x, y with
  | .int i, .int j => Q (decide (i = j))
  | .str a, .str b => Q (decide (a = b))
  | .bool a, .bool b => Q (decide (a = b))
  | x, y => okD x ∧ okD y ∧ Q (PyData.eqv x y)
def pIn (x y : D) (Q : Bool → Prop) : Prop := match x, y with
  | .str a, .str b => Q (!(Builtin.Str.occurrences b a 0 b.length 1).isEmpty)
  | x, .list ds => okD x ∧ okD (.list ds) ∧ Q (ds.any fun z => PyData.eqv z x)
  | x, .tuple ds => okD x ∧ okD (.tuple ds) ∧ Q (ds.any fun z => PyData.eqv z x)
  | _, _ => False
def pIs (x y : D) (Q : Bool → Prop) : Prop := match x, y with
  | .none, .none => Q true
  | .bool a, .bool b => Q (decide (a = b))
  | .bool _, .none | .int _, .none | .str _, .none | .list _, .none | .tuple _, .none => Q false
  | _, _ => False
def pLt (x y : D) (Q : Bool → Prop) : Prop := match x, y with
  | .int i, .int j => Q (decide (i < j))
  | .tuple a, .tuple b => PySem.W.alike (.tuple a) (.tuple b) = true ∧ (PyData.tuple a).depth ≤ 60 ∧ Q (PySem.W.dataLt (.tuple a) (.tuple b))
  | _, _ => False
def pGt (x y : D) (Q : Bool → Prop) : Prop := match x, y with
  | .int i, .int j => Q (decide (j < i))
  | _, _ => False
def pGe (x y : D) (Q : Bool → Prop) : Prop := match x, y with
  | .int i, .int j => Q (decide (j ≤ i))
  | _, _ => False
def pLe (x y : D) (Q : Bool → Prop) : Prop := match x, y with
  | .int i, .int j => Q (decide (i ≤ j))
  | _, _ => False
def pCmp (op : CmpOp) (x y : D) (Q : D → Prop) : Prop := match op with
  | .Eq => pEq x y fun b => Q (.bool b)
  | .NotEq => pEq x y fun b => Q (.bool (!b))
  | .Lt => pLt x y fun b => Q (.bool b)
  | .LtE => pLe x y fun b => Q (.bool b)
  | .Gt => pGt x y fun b => Q (.bool b)
  | .GtE => pGe x y fun b => Q (.bool b)
  | .Is => pIs x y fun b => Q (.bool b)
  | .IsNot => pIs x y fun b => Q (.bool (!b))
  | .In => pIn x y fun b => Q (.bool b)
  | .NotIn => pIn x y fun b => Q (.bool (!b))
def pBin (op : Operator) (x y : D) (Q : D → Prop) : Prop := match op, x, y with
  | .Add, .int i, .int j => Q (.int (i + j))
  | .Add, .str a, .str b => a.length + b.length ≤ sizeLine ∧ Q (.str (a ++ b))
  | .Add, .tuple a, .tuple b => a.length + b.length ≤ sizeLine ∧ Q (.tuple (a ++ b))
  | .Add, .list a, .list b => a.length + b.length ≤ sizeLine ∧ Q (.list (a ++ b))
  | .Sub, .int i, .int j => Q (.int (i - j))
  | .Mult, .int i, .int j => CMul i j ∧ Q (.int (i * j))
  | .Mult, .list a, .int j => (0 ≤ j ∧ j ≤ 1000 ∧ a.length ≤ 1000) ∧ Q (.list (List.replicate j.toNat a).flatten)
  | .Mult, .tuple a, .int j => (2 ≤ j ∧ j ≤ 1000 ∧ a ≠ [] ∧ a.length ≤ 1000) ∧ Q (.tuple (List.replicate j.toNat a).flatten)
  | .Mod, .int i, .int j => 0 < j ∧ Q (.int (i % j))
  | .FloorDiv, .int i, .int j => CDiv i j ∧ Q (.int (i / j))
  | _, _, _ => False
def pIx (x k : D) (Q : D → Prop) : Prop := match x, k with
  | .list ds, .int i => match atI ds i with | some d => Q d | none => False
  | .tuple ds, .int i => match atI ds i with | some d => Q d | none => False
  | .str z, .int i => z.length ≤ sizeLine ∧ match atI z.cps.toList i with | some c => Q (.str ⟨#[c]⟩) | none => False
  | _, _ => False
def cutD (xs : List D) (lo hi : Option Int) : List D := (xs.drop (HT.sIx xs.length 0 lo)).take (HT.sIx xs.length xs.length hi - HT.sIx xs.length 0 lo)
def pSl (x : D) (lo hi : Option Int) (Q : D → Prop) : Prop := match x with
  | .list ds => Q (.list (cutD ds lo hi))
  | .tuple ds => Q (.tuple (cutD ds lo hi))
  | .str z => z.length ≤ sizeLine ∧ Q (.str (Txt.slice z lo hi))
  | _ => False
def pI (x : D) (Q : Int → Prop) : Prop := match x with | .int i => Q i | _ => False
def pB (x : D) (Q : Bool → Prop) : Prop := match x with | .bool b => Q b | _ => False
def pIsi (x : D) (t : Ty4) : Bool := match t, x with
  | .int, .int _ => true | .int, .bool _ => true
  | .str, .str _ => true | .tup, .tuple _ => true | .bool, .bool _ => true | .list, .list _ => true
  | _, _ => false
def sortOk (ds : List D) : Prop := PySem.W.AllAlike ds ∧ PySem.W.Sortable ds ∧ ∀ d ∈ ds, d.depth ≤ 60
def sortD (ds : List D) : List D := ds.mergeSort (PySem.W.dataLe false id)
/-- what may be put into a set here: ints, texts, tuples of these -/
def keyD : D → Bool
  | .int _ | .str _ => true
  | _ => false
def hashD : D → Bool
  | .tuple ds => ds.all keyD
  | _ => false
/-- the first of equal ones kept -/
def dedup : List D → List D
  | [] => []
  | d :: ds => d :: (dedup ds).filter fun e => !PyData.eqv d e
def pB1 (f : B1) (x : D) (Q : D → Prop) : Prop := match f, x with
  | .len, .list ds => Q (.int ds.length)
  | .len, .tuple ds => Q (.int ds.length)
  | .len, .str z => z.length ≤ sizeLine ∧ Q (.int z.length)
  | .all, .list ds => match asBools ds with | some bs => Q (.bool (bs.all id)) | none => False
  | .any, .list ds => match asBools ds with | some bs => Q (.bool (bs.any id)) | none => False
  | .sum, .list ds => match asInts ds with | some ns => Q (.int ns.sum) | none => False
  | .max, .list ds => match asInts ds with | some ns => ns ≠ [] ∧ Q (.int (maxI ns)) | none => False
  | .min, .list ds => match asInts ds with | some ns => ns ≠ [] ∧ Q (.int (minI ns)) | none => False
  | .sorted, .list ds => sortOk ds ∧ Q (.list (sortD ds))
  | .sset, .list ds => (ds.all hashD = true ∧ ds.length < 64 ∧ sortOk ds) ∧ Q (.list (sortD (dedup ds)))
  | .lset, .list ds => (ds.all hashD = true ∧ ds.length < 64) ∧ Q (.int (dedup ds).length)
  | .tuple, .list ds => Q (.tuple ds)
  | .tuple, .tuple ds => Q (.tuple ds)
  | .list, .list ds => Q (.list ds)
  | .list, .tuple ds => Q (.list ds)
  | .int, .int i => Q (.int i)
  | .str, .int i => i.natAbs.log2 < 1920 ∧ Q (.str (toString i))
  | .abs, .int i => Q (.int (if i < 0 then -i else i))
  | _, _ => False
def pB2 (f : B2) (x y : D) (Q : D → Prop) : Prop := match f, x, y with
  | .max, .int i, .int j => Q (.int (if j > i then j else i))
  | .min, .int i, .int j => Q (.int (if j < i then j else i))
  | _, _, _ => False
def pMt (m : Mt) (o a : D) (Q : D → Prop) : Prop := match m, o, a with
  | .join, .str sep, .list ds => match asStrs ds with
    | some ys => (ys.map (·.length)).sum + sep.length * ys.length ≤ 16777216 ∧ Q (.str (Txt.join sep ys))
    | none => False
  | .split, .str a, .str b => ((b.length == 0) = false ∧ a.length + 2 ≤ sizeLine) ∧ Q (.list ((Txt.split a b).map .str))
  | .count, .str a, .str b => Q (.int (Txt.count a b))
  | .find, .str a, .str b => Q (.int (Txt.find a b))
  | .rstrip, .str a, .str b => a.length ≤ sizeLine ∧ Q (.str (Txt.rstripChars a b))
  | .rjust, .str a, .int i => PadOk i = true ∧ Q (.str (Txt.rjust a i))
  | _, _, _ => False
/-- lo, lo + 1, .. below hi -/
def rngD (lo hi : Int) : List D := (List.range (hi - lo).toNat).map fun k => .int (lo + (k : Nat))
def rngDC (lo c : Int) (n : Nat) : List D := (List.range n).map fun k => .int (lo + (k : Nat) * c)
def chrsD (z : Str) : List D := z.cps.toList.map fun c => .str ⟨#[c]⟩
def enumD (ds : List D) : List D := (List.range ds.length).zipWith (fun i d => .tuple [.int (i : Nat), d]) ds
def zipD (a b : List D) : List D := a.zipWith (fun x y => .tuple [x, y]) b
def pSeq (x : D) (Q : List D → Prop) : Prop := match x with
  | .list ds => Q ds
  | .tuple ds => Q ds
  | .str z => z.length ≤ sizeLine ∧ Q (chrsD z)
  | _ => False
def rOk (i : Int) : Prop := -16777216 ≤ i ∧ i ≤ 16777216

/-! ### the wish ahead -/
abbrev Phi := Nat → List S → (S → Prop) → Prop
abbrev Con := Nat → Option D

mutual
def wpBind : Tg → D → List S → (List S → Prop) → Prop
  | .nm i, d, ρ, Q => Q (setS ρ i (.val d))
  | .tp l, d, ρ, Q => match d with | .tuple ds => wpBinds l ds ρ Q | _ => False
def wpBinds : Tgs → List D → List S → (List S → Prop) → Prop
  | .nil, ds, ρ, Q => match ds with | [] => Q ρ | _ => False
  | .cons t l, ds, ρ, Q => match ds with | d :: r => wpBind t d ρ fun ρ' => wpBinds l r ρ' Q | [] => False
end
/-- a comprehension over its items: tt the tests, te the element, b the target -/
def wpLC (b : D → List S → (List S → Prop) → Prop) (tt : List S → (Bool → Prop) → Prop) (te : List S → (D → Prop) → Prop) (ρ : List S) : List D → List D → (List D → Prop) → Prop
  | [], acc, Q => Q acc
  | d :: ds, acc, Q => b d ρ fun ρ' => tt ρ' fun k => match k with
    | true => te ρ' fun y => wpLC b tt te ρ ds (acc ++ [y]) Q
    | false => wpLC b tt te ρ ds acc Q
def resD (Q : D → Prop) : S → Prop
  | .val d => Q d
  | .own ds => Q (.list ds)
  | _ => False
mutual
def wpE (Φ : Phi) (C : Con) : Ex → List S → (D → Prop) → Prop
  | .var i, ρ, Q => match getS ρ i with | .val d => Q d | _ => False
  | .glob c, _, Q => match C c with | some d => Q d | none => False
  | .int i, _, Q => Q (.int i)
  | .str x, _, Q => Q (.str x)
  | .bl b, _, Q => Q (.bool b)
  | .non, _, Q => Q .none
  | .tup es, ρ, Q => wpEs Φ C es ρ fun ds => Q (.tuple ds)
  | .lst es, ρ, Q => wpEs Φ C es ρ fun ds => Q (.list ds)
  | .bin op a b, ρ, Q => wpE Φ C a ρ fun x => wpE Φ C b ρ fun y => pBin op x y Q
  | .neg a, ρ, Q => wpE Φ C a ρ fun x => pI x fun i => Q (.int (-i))
  | .not a, ρ, Q => wpE Φ C a ρ fun x => pB x fun b => Q (.bool (!b))
  | .cmp op a b, ρ, Q => wpE Φ C a ρ fun x => wpE Φ C b ρ fun y => pCmp op x y Q
  | .chain op op2 a b c, ρ, Q => wpE Φ C a ρ fun x => wpE Φ C b ρ fun y => pCmp op x y fun z => pB z fun k => match k with
    | true => wpE Φ C c ρ fun u => pCmp op2 y u Q
    | false => Q (.bool false)
  | .bop op es, ρ, Q => wpBop Φ C op es ρ Q
  | .ite c a b, ρ, Q => wpE Φ C c ρ fun x => pB x fun k => match k with
    | true => wpE Φ C a ρ Q
    | false => wpE Φ C b ρ Q
  | .isi a t, ρ, Q => wpE Φ C a ρ fun x => Q (.bool (pIsi x t))
  | .b1 f a, ρ, Q => wpE Φ C a ρ fun x => pB1 f x Q
  | .b2 f a b, ρ, Q => wpE Φ C a ρ fun x => wpE Φ C b ρ fun y => pB2 f x y Q
  | .lrng it, ρ, Q => wpIt Φ C it ρ fun ds => Q (.list ds)
  | .slen i, ρ, Q => match getS ρ i with | .scr ns => Q (.int ns.length) | _ => False
  | .call f es, ρ, Q => wpEs Φ C es ρ fun ds => Φ f (ds.map .val) (resD Q)
  | .calls f i es, ρ, Q => match getS ρ i with | .src => wpEs Φ C es ρ fun ds => Φ f (.src :: ds.map .val) (resD Q) | _ => False
  | .ix a b, ρ, Q => wpE Φ C a ρ fun x => wpE Φ C b ρ fun k => pIx x k Q
  | .slT a hi, ρ, Q => wpE Φ C a ρ fun x => wpE Φ C hi ρ fun k => pI k fun j => pSl x none (some j) Q
  | .slF a lo, ρ, Q => wpE Φ C a ρ fun x => wpE Φ C lo ρ fun k => pI k fun i => pSl x (some i) none Q
  | .slB a lo hi, ρ, Q => wpE Φ C a ρ fun x => wpE Φ C lo ρ fun k => pI k fun i => wpE Φ C hi ρ fun l => pI l fun j => pSl x (some i) (some j) Q
  | .slR a, ρ, Q => wpE Φ C a ρ fun x => match x with
    | .list ds => Q (.list ds.reverse)
    | _ => False
  | .sl2 a, ρ, Q => False
  | .comp elt tg it cond own, ρ, Q => wpIt Φ C it ρ fun ds => wpLC (wpBind tg) (fun ρ' K => wpTs Φ C cond ρ' K) (fun ρ' K => wpE Φ C elt ρ' K) (wipeS ρ (own.map (·.2))) ds [] fun acc => Q (.list acc)
  | .mt m o a, ρ, Q => wpE Φ C o ρ fun x => wpE Φ C a ρ fun y => pMt m x y Q
def wpEs (Φ : Phi) (C : Con) : Exs → List S → (List D → Prop) → Prop
  | .nil, _, Q => Q []
  | .cons e es, ρ, Q => wpE Φ C e ρ fun d => wpEs Φ C es ρ fun ds => Q (d :: ds)
def wpBop (Φ : Phi) (C : Con) : BoolOp → Exs → List S → (D → Prop) → Prop
  | _, .nil, _, _ => False
  | op, .cons e es, ρ, Q => match es with
    | .nil => wpE Φ C e ρ fun x => pB x fun k => Q (.bool k)
    | .cons e2 es2 => wpE Φ C e ρ fun x => pB x fun k => match op, k with
      | .And, true => wpBop Φ C op (.cons e2 es2) ρ Q
      | .And, false => Q (.bool false)
      | .Or, true => Q (.bool true)
      | .Or, false => wpBop Φ C op (.cons e2 es2) ρ Q
def wpTs (Φ : Phi) (C : Con) : Exs → List S → (Bool → Prop) → Prop
  | .nil, _, Q => Q true
  | .cons e es, ρ, Q => match es with
    | .nil => wpE Φ C e ρ fun x => pB x Q
    | .cons _ _ => False
def wpIt (Φ : Phi) (C : Con) : It → List S → (List D → Prop) → Prop
  | .seq e, ρ, Q => wpE Φ C e ρ fun x => pSeq x Q
  | .rng1 a, ρ, Q => wpE Φ C a ρ fun x => pI x fun n => rOk n ∧ Q (rngD 0 n)
  | .rng2 a b, ρ, Q => wpE Φ C a ρ fun x => wpE Φ C b ρ fun y => pI x fun i => pI y fun j => (0 ≤ i ∧ rOk i ∧ rOk j) ∧ Q (rngD i j)
  | .rng3 a b c, ρ, Q => wpE Φ C a ρ fun x => wpE Φ C b ρ fun y => wpE Φ C c ρ fun z => pI x fun i => pI y fun j => pI z fun k => (k = -1 ∧ (-1000 ≤ i ∧ i ≤ 1000) ∧ j = -1) ∧ Q (rngDC i (-1) (i + 1).toNat)
  | .enum e, ρ, Q => wpE Φ C e ρ fun x => match x with
    | .list ds => Q (enumD ds)
    | .tuple ds => Q (enumD ds)
    | _ => False
  | .zip a b, ρ, Q => wpE Φ C a ρ fun x => wpE Φ C b ρ fun y => match x, y with
    | .list ds, .list es => ds.length ≤ sizeLine ∧ Q (zipD ds es)
    | .tuple ds, .tuple es => ds.length ≤ sizeLine ∧ Q (zipD ds es)
    | _, _ => False
end
end SW

namespace SW
open PySem PySem.Spec PyProof.Rows L2

/-- an expression that makes a new list -/
def wpF (Φ : Phi) (C : Con) (e : Ex) (ρ : List S) (Q : List D → Prop) : Prop := match e with
  | .lst es => wpEs Φ C es ρ Q
  | .comp elt tg it cond own => wpIt Φ C it ρ fun ds => wpLC (wpBind tg) (fun ρ' K => wpTs Φ C cond ρ' K) (fun ρ' K => wpE Φ C elt ρ' K) (wipeS ρ (own.map (·.2))) ds [] Q
  | .call f es => wpEs Φ C es ρ fun ds => Φ f (ds.map .val) fun r => match r with | .own ys => Q ys | _ => False
  | .bin .Mult a b => wpE Φ C a ρ fun x => wpE Φ C b ρ fun y => match x, y with
    | .list ds, .int j => (0 ≤ j ∧ j ≤ 1000 ∧ ds.length ≤ 1000) ∧ Q (List.replicate j.toNat ds).flatten
    | _, _ => False
  | _ => False

structure End where
  nx : List S → Prop
  rt : S → Prop
  bk : List S → Prop := fun _ => False
  ct : List S → Prop := fun _ => False

/-- a for over its items -/
def wpFor (b : D → List S → (List S → Prop) → Prop) (body : List S → End → Prop) (E : End) : List D → List S → Prop
  | [], ρ => E.nx ρ
  | d :: ds, ρ => b d ρ fun ρ' => body ρ' { E with nx := fun ρ2 => wpFor b body E ds ρ2, ct := fun ρ2 => wpFor b body E ds ρ2, bk := E.nx }
/-- a while, so many turns at most -/
def wpWh (c : List S → (Bool → Prop) → Prop) (body : List S → End → Prop) (E : End) : Nat → List S → Prop
  | 0, _ => False
  | n + 1, ρ => c ρ fun k => match k with
    | true => body ρ { E with nx := wpWh c body E n, ct := wpWh c body E n, bk := E.nx }
    | false => E.nx ρ
/-- the values of a, b = x, y: one after another -/
def wpPar (Φ : Phi) (C : Con) : List (Nat × Bool) → Exs → List S → (List S → Prop) → Prop
  | [], .nil, _, Q => Q []
  | (i, o) :: l, .cons e es, ρ, Q => match o with
    | true => wpF Φ C e ρ fun ds => wpPar Φ C l es ρ fun r => Q (.own ds :: r)
    | false => wpE Φ C e ρ fun d => wpPar Φ C l es ρ fun r => Q (.val d :: r)
  | _, _, _, _ => False
def setAll (ρ : List S) : List (Nat × Bool) → List S → List S
  | (i, _) :: l, s :: r => setAll (setS ρ i s) l r
  | _, _ => ρ
mutual
def wpS (Φ : Phi) (C : Con) : Sm → List S → End → Prop
  | .set pk i e, ρ, E => wpE Φ C e (see pk ρ) fun d => (pk = true → scal1 d = true) ∧ E.nx (setS ρ i (.val d))
  | .seto i e, ρ, E => wpF Φ C e (see false ρ) fun ds => E.nx (setS ρ i (.own ds))
  | .asg tg e, ρ, E => wpE Φ C e (see false ρ) fun d => wpBind tg d ρ E.nx
  | .par l es, ρ, E => wpPar Φ C l es (see false ρ) fun r => E.nx (setAll ρ l r)
  | .app pk i e, ρ, E => match getS ρ i with
    | .own ds => wpE Φ C e (see pk ρ) fun d => (pk = true → scal1 d = true) ∧ ds.length < sizeLine ∧ E.nx (setS ρ i (.own (ds ++ [d])))
    | _ => False
  | .seti pk i k e, ρ, E => match getS ρ i with
    | .own ds => wpE Φ C e (see pk ρ) fun d => (pk = true → scal1 d = true) ∧ wpE Φ C k (see true ρ) fun x => pI x fun j => match ixN ds.length j with
      | some m => E.nx (setS ρ i (.own (ds.set m d)))
      | none => False
    | _ => False
  | .expr e, ρ, E => wpE Φ C e (see true ρ) fun _ => E.nx ρ
  | .ret e, ρ, E => wpE Φ C e (see true ρ) fun d => E.rt (.val d)
  | .reto e, ρ, E => wpF Φ C e (see false ρ) fun ds => E.rt (.own ds)
  | .retv i, ρ, E => match getS ρ i with | .own ds => E.rt (.own ds) | _ => False
  | .retn, ρ, E => E.rt (.val .none)
  | .ife c a b, ρ, E => wpE Φ C c (see true ρ) fun x => pB x fun k => match k with
    | true => wpSs Φ C a ρ E
    | false => wpSs Φ C b ρ E
  | .forr tg it body, ρ, E => wpIt Φ C it (see false ρ) fun ds => wpFor (wpBind tg) (fun ρ' E' => wpSs Φ C body ρ' E') E ds ρ
  | .whil c body, ρ, E => ∃ n, wpWh (fun ρ' K => wpE Φ C c (see true ρ') fun x => pB x K) (fun ρ' E' => wpSs Φ C body ρ' E') E n ρ
  | .frz i s, ρ, E => match getS ρ i with
    | .own ds => wpS Φ C s (setS ρ i (.val (.list ds))) E
    | _ => False
  | .news i j e, ρ, E => match getS ρ j with
    | .scr ns => wpE Φ C e (see false ρ) fun d => pI d fun k => (0 ≤ k ∧ k ≤ 1048576) ∧ E.nx (setS (kill ρ) i .src)
    | _ => False
  | .brk, ρ, E => E.bk ρ
  | .cnt, ρ, E => E.ct ρ
  | .pass, ρ, E => E.nx ρ
  | .never, _, _ => False
def wpSs (Φ : Phi) (C : Con) : Sms → List S → End → Prop
  | .nil, ρ, E => E.nx ρ
  | .cons s l, ρ, E => wpS Φ C s ρ { E with nx := fun ρ' => wpSs Φ C l ρ' E }
end
structure Fn where
  name : Str
  np : Nat
  N : List Str
  body : Sms
/-- a def's body at its arguments -/
def wpDef (Φ : Phi) (C : Con) (F : Fn) (args : List S) (Q : S → Prop) : Prop :=
  args.length = F.np ∧ wpSs Φ C F.body (args ++ List.replicate (F.N.length - F.np) .no) ⟨fun _ => Q (.val .none), Q, fun _ => False, fun _ => False⟩
/-- the draw: any number below the size -/
def wpDraw (args : List S) (Q : S → Prop) : Prop := match args with
  | [.src, .val (.int n)] => (0 < n ∧ n < 1073741824) ∧ ∀ k : Int, 0 ≤ k → k < n → Q (.val (.int k))
  | _ => False
/-- calls, so many deep -/
def wpCall (Γ : Nat → Option Fn) (C : Con) : Nat → Phi
  | 0 => fun _ _ _ => False
  | n + 1 => fun f args Q => match f with
    | 0 => False
    | 1 => wpDraw args Q
    | f => match Γ f with
      | some F => wpDef (wpCall Γ C n) C F args Q
      | none => False
end SW

namespace SW
open PySem PySem.Spec PyProof.Rows L2

theorem pEq_mono {x y : D} {Q Q' : Bool → Prop} (m : ∀ d, Q d → Q' d) (h : pEq x y Q) : pEq x y Q' := by
  unfold pEq at h ⊢
  split at h
  · exact m _ h
  · exact m _ h
  · exact m _ h
  · exact ⟨h.1, h.2.1, m _ h.2.2⟩
theorem pIn_mono {x y : D} {Q Q' : Bool → Prop} (m : ∀ d, Q d → Q' d) (h : pIn x y Q) : pIn x y Q' := by
  unfold pIn at h ⊢
  split at h
  · exact m _ h
  · exact ⟨h.1, h.2.1, m _ h.2.2⟩
  · exact ⟨h.1, h.2.1, m _ h.2.2⟩
  · exact h.elim
theorem pIs_mono {x y : D} {Q Q' : Bool → Prop} (m : ∀ d, Q d → Q' d) (h : pIs x y Q) : pIs x y Q' := by
  unfold pIs at h ⊢
  split at h <;> first | exact m _ h | exact h.elim
theorem pLt_mono {x y : D} {Q Q' : Bool → Prop} (m : ∀ d, Q d → Q' d) (h : pLt x y Q) : pLt x y Q' := by
  unfold pLt at h ⊢
  split at h
  · exact m _ h
  · exact ⟨h.1, h.2.1, m _ h.2.2⟩
  · exact h.elim
theorem pLe_mono {x y : D} {Q Q' : Bool → Prop} (m : ∀ d, Q d → Q' d) (h : pLe x y Q) : pLe x y Q' := by
  unfold pLe at h ⊢
  split at h
  · exact m _ h
  · exact h.elim
theorem pGt_mono {x y : D} {Q Q' : Bool → Prop} (m : ∀ d, Q d → Q' d) (h : pGt x y Q) : pGt x y Q' := by
  unfold pGt at h ⊢
  split at h
  · exact m _ h
  · exact h.elim
theorem pGe_mono {x y : D} {Q Q' : Bool → Prop} (m : ∀ d, Q d → Q' d) (h : pGe x y Q) : pGe x y Q' := by
  unfold pGe at h ⊢
  split at h
  · exact m _ h
  · exact h.elim
theorem pCmp_mono {op : CmpOp} {x y : D} {Q Q' : D → Prop} (m : ∀ d, Q d → Q' d) (h : pCmp op x y Q) : pCmp op x y Q' := by
  cases op
  · exact pEq_mono (Q := fun b => Q (.bool b)) (Q' := fun b => Q' (.bool b)) (fun _ q => m _ q) h
  · exact pEq_mono (Q := fun b => Q (.bool (!b))) (Q' := fun b => Q' (.bool (!b))) (fun _ q => m _ q) h
  · exact pLt_mono (Q := fun b => Q (.bool b)) (Q' := fun b => Q' (.bool b)) (fun _ q => m _ q) h
  · exact pLe_mono (Q := fun b => Q (.bool b)) (Q' := fun b => Q' (.bool b)) (fun _ q => m _ q) h
  · exact pGt_mono (Q := fun b => Q (.bool b)) (Q' := fun b => Q' (.bool b)) (fun _ q => m _ q) h
  · exact pGe_mono (Q := fun b => Q (.bool b)) (Q' := fun b => Q' (.bool b)) (fun _ q => m _ q) h
  · exact pIs_mono (Q := fun b => Q (.bool b)) (Q' := fun b => Q' (.bool b)) (fun _ q => m _ q) h
  · exact pIs_mono (Q := fun b => Q (.bool (!b))) (Q' := fun b => Q' (.bool (!b))) (fun _ q => m _ q) h
  · exact pIn_mono (Q := fun b => Q (.bool b)) (Q' := fun b => Q' (.bool b)) (fun _ q => m _ q) h
  · exact pIn_mono (Q := fun b => Q (.bool (!b))) (Q' := fun b => Q' (.bool (!b))) (fun _ q => m _ q) h
theorem pBin_mono {op : Operator} {x y : D} {Q Q' : D → Prop} (m : ∀ d, Q d → Q' d) (h : pBin op x y Q) : pBin op x y Q' := by
  unfold pBin at h ⊢
  split at h <;> first | exact m _ h | exact ⟨h.1, m _ h.2⟩ | exact h.elim
theorem pI_mono {x : D} {Q Q' : Int → Prop} (m : ∀ d, Q d → Q' d) (h : pI x Q) : pI x Q' := by
  unfold pI at h ⊢
  split at h <;> first | exact m _ h | exact h.elim
theorem pB_mono {x : D} {Q Q' : Bool → Prop} (m : ∀ d, Q d → Q' d) (h : pB x Q) : pB x Q' := by
  unfold pB at h ⊢
  split at h <;> first | exact m _ h | exact h.elim
theorem pIx_mono {x y : D} {Q Q' : D → Prop} (m : ∀ d, Q d → Q' d) (h : pIx x y Q) : pIx x y Q' := by
  unfold pIx at h ⊢
  split at h
  · split at h <;> first | exact m _ h | exact h.elim
  · split at h <;> first | exact m _ h | exact h.elim
  · refine ⟨h.1, ?_⟩
    have h2 := h.2
    split at h2 <;> first | exact m _ h2 | exact h2.elim
  · exact h.elim
theorem pSl_mono {x : D} {lo hi : Option Int} {Q Q' : D → Prop} (m : ∀ d, Q d → Q' d) (h : pSl x lo hi Q) : pSl x lo hi Q' := by
  unfold pSl at h ⊢
  split at h <;> first | exact m _ h | exact ⟨h.1, m _ h.2⟩ | exact h.elim
theorem pB1_mono {f : B1} {x : D} {Q Q' : D → Prop} (m : ∀ d, Q d → Q' d) (h : pB1 f x Q) : pB1 f x Q' := by
  unfold pB1 at h ⊢
  split at h <;> first | exact m _ h | exact ⟨h.1, m _ h.2⟩ | exact h.elim | (split at h <;> first | exact m _ h | exact ⟨h.1, m _ h.2⟩ | exact h.elim)
theorem pB2_mono {f : B2} {x y : D} {Q Q' : D → Prop} (m : ∀ d, Q d → Q' d) (h : pB2 f x y Q) : pB2 f x y Q' := by
  unfold pB2 at h ⊢
  split at h <;> first | exact m _ h | exact h.elim
theorem pMt_mono {f : Mt} {x y : D} {Q Q' : D → Prop} (m : ∀ d, Q d → Q' d) (h : pMt f x y Q) : pMt f x y Q' := by
  unfold pMt at h ⊢
  split at h <;> first | exact m _ h | exact ⟨h.1, m _ h.2⟩ | exact h.elim | (split at h <;> first | exact m _ h | exact ⟨h.1, m _ h.2⟩ | exact h.elim)
theorem pSeq_mono {x : D} {Q Q' : List D → Prop} (m : ∀ d, Q d → Q' d) (h : pSeq x Q) : pSeq x Q' := by
  unfold pSeq at h ⊢
  split at h <;> first | exact m _ h | exact ⟨h.1, m _ h.2⟩ | exact h.elim
def PhiMono (Φ : Phi) : Prop := ∀ f args (Q Q' : S → Prop), (∀ r, Q r → Q' r) → Φ f args Q → Φ f args Q'
theorem resD_mono {Q Q' : D → Prop} (m : ∀ d, Q d → Q' d) : ∀ r, resD Q r → resD Q' r := by
  intro r h
  cases r <;> first | exact m _ h | exact h.elim
mutual
theorem wpBind_mono {Q Q' : List S → Prop} (m : ∀ d, Q d → Q' d) : ∀ (t : Tg) (d : D) (ρ : List S), wpBind t d ρ Q → wpBind t d ρ Q'
  | .nm i, d, ρ, h => m _ h
  | .tp l, d, ρ, h => by
    cases d <;> first | exact wpBinds_mono m l _ ρ h | exact h.elim
theorem wpBinds_mono {Q Q' : List S → Prop} (m : ∀ d, Q d → Q' d) : ∀ (t : Tgs) (d : List D) (ρ : List S), wpBinds t d ρ Q → wpBinds t d ρ Q'
  | .nil, d, ρ, h => by
    cases d <;> first | exact m _ h | exact h.elim
  | .cons t l, d, ρ, h => by
    cases d with
    | nil => exact h.elim
    | cons d r => exact wpBind_mono (fun ρ' q => wpBinds_mono m l r ρ' q) t d ρ h
end
theorem wpLC_mono {b : D → List S → (List S → Prop) → Prop} {tt : List S → (Bool → Prop) → Prop} {te : List S → (D → Prop) → Prop} {ρ : List S}
    (hb : ∀ d ρ (Q Q' : List S → Prop), (∀ r, Q r → Q' r) → b d ρ Q → b d ρ Q') (ht : ∀ ρ (Q Q' : Bool → Prop), (∀ r, Q r → Q' r) → tt ρ Q → tt ρ Q')
    (he : ∀ ρ (Q Q' : D → Prop), (∀ r, Q r → Q' r) → te ρ Q → te ρ Q') {Q Q' : List D → Prop} (m : ∀ d, Q d → Q' d) : ∀ (ds acc : List D), wpLC b tt te ρ ds acc Q → wpLC b tt te ρ ds acc Q'
  | [], acc, h => m _ h
  | d :: ds, acc, h => hb d ρ _ _ (fun ρ' q => ht ρ' _ _ (fun k q2 => by
      cases k with
      | true => exact he ρ' _ _ (fun y q3 => wpLC_mono hb ht he m ds (acc ++ [y]) q3) q2
      | false => exact wpLC_mono hb ht he m ds acc q2) q) h
section
variable {Φ : Phi} {C : Con} (hΦ : PhiMono Φ)
include hΦ
mutual
theorem wpE_mono : ∀ (e : Ex) (ρ : List S) {Q Q' : D → Prop}, (∀ d, Q d → Q' d) → wpE Φ C e ρ Q → wpE Φ C e ρ Q'
  | .var i, ρ, Q, Q', m, h => by
    unfold wpE at h ⊢
    split at h <;> first | exact m _ h | exact h.elim
  | .glob c, ρ, Q, Q', m, h => by
    unfold wpE at h ⊢
    split at h <;> first | exact m _ h | exact h.elim
  | .int i, ρ, Q, Q', m, h => m _ h
  | .str i, ρ, Q, Q', m, h => m _ h
  | .bl i, ρ, Q, Q', m, h => m _ h
  | .non, ρ, Q, Q', m, h => m _ h
  | .tup es, ρ, Q, Q', m, h => wpEs_mono es ρ (fun _ q => m _ q) h
  | .lst es, ρ, Q, Q', m, h => wpEs_mono es ρ (fun _ q => m _ q) h
  | .bin op a b, ρ, Q, Q', m, h => wpE_mono a ρ (fun _ q => wpE_mono b ρ (fun _ q2 => pBin_mono m q2) q) h
  | .neg a, ρ, Q, Q', m, h => wpE_mono a ρ (fun _ q => pI_mono (fun _ q => m _ q) q) h
  | .not a, ρ, Q, Q', m, h => wpE_mono a ρ (fun _ q => pB_mono (fun _ q => m _ q) q) h
  | .cmp op a b, ρ, Q, Q', m, h => wpE_mono a ρ (fun _ q => wpE_mono b ρ (fun _ q2 => pCmp_mono m q2) q) h
  | .chain op op2 a b c, ρ, Q, Q', m, h => wpE_mono a ρ (fun _ q => wpE_mono b ρ (fun _ q2 => pCmp_mono (fun _ q3 => pB_mono (fun k q4 => by
      cases k with
      | true => exact wpE_mono c ρ (fun _ q5 => pCmp_mono m q5) q4
      | false => exact m _ q4) q3) q2) q) h
  | .bop op es, ρ, Q, Q', m, h => wpBop_mono op es ρ m h
  | .ite c a b, ρ, Q, Q', m, h => wpE_mono c ρ (fun _ q => pB_mono (fun k q4 => by
      cases k with
      | true => exact wpE_mono a ρ m q4
      | false => exact wpE_mono b ρ m q4) q) h
  | .isi a t, ρ, Q, Q', m, h => wpE_mono a ρ (fun _ q => m _ q) h
  | .b1 f a, ρ, Q, Q', m, h => wpE_mono a ρ (fun _ q => pB1_mono m q) h
  | .b2 f a b, ρ, Q, Q', m, h => wpE_mono a ρ (fun _ q => wpE_mono b ρ (fun _ q2 => pB2_mono m q2) q) h
  | .lrng it, ρ, Q, Q', m, h => wpIt_mono it ρ (fun _ q => m _ q) h
  | .slen i, ρ, Q, Q', m, h => by
    unfold wpE at h ⊢
    split at h <;> first | exact m _ h | exact h.elim
  | .call f es, ρ, Q, Q', m, h => wpEs_mono es ρ (fun _ q => hΦ _ _ _ _ (resD_mono m) q) h
  | .calls f i es, ρ, Q, Q', m, h => by
    unfold wpE at h ⊢
    split at h <;> first | exact wpEs_mono es ρ (fun _ q => hΦ _ _ _ _ (resD_mono m) q) h | exact h.elim
  | .ix a b, ρ, Q, Q', m, h => wpE_mono a ρ (fun _ q => wpE_mono b ρ (fun _ q2 => pIx_mono m q2) q) h
  | .slT a b, ρ, Q, Q', m, h => wpE_mono a ρ (fun _ q => wpE_mono b ρ (fun _ q2 => pI_mono (fun _ q3 => pSl_mono m q3) q2) q) h
  | .slF a b, ρ, Q, Q', m, h => wpE_mono a ρ (fun _ q => wpE_mono b ρ (fun _ q2 => pI_mono (fun _ q3 => pSl_mono m q3) q2) q) h
  | .slB a b c, ρ, Q, Q', m, h => wpE_mono a ρ (fun _ q => wpE_mono b ρ (fun _ q2 => pI_mono (fun _ q3 => wpE_mono c ρ (fun _ q5 => pI_mono (fun _ q4 => pSl_mono m q4) q5) q3) q2) q) h
  | .slR a, ρ, Q, Q', m, h => wpE_mono a ρ (fun x q => by
      cases x <;> first | exact m _ q | exact q.elim) h
  | .sl2 a, ρ, Q, Q', m, h => h.elim
  | .comp elt tg it cond own, ρ, Q, Q', m, h => wpIt_mono it ρ (fun ds q => wpLC_mono (fun d ρ _ _ m q => wpBind_mono m tg d ρ q) (fun ρ _ _ m q => wpTs_mono cond ρ m q) (fun ρ _ _ m q => wpE_mono elt ρ m q) (fun _ q => m _ q) ds [] q) h
  | .mt f a b, ρ, Q, Q', m, h => wpE_mono a ρ (fun _ q => wpE_mono b ρ (fun _ q2 => pMt_mono m q2) q) h
theorem wpEs_mono : ∀ (e : Exs) (ρ : List S) {Q Q' : List D → Prop}, (∀ d, Q d → Q' d) → wpEs Φ C e ρ Q → wpEs Φ C e ρ Q'
  | .nil, ρ, Q, Q', m, h => m _ h
  | .cons e es, ρ, Q, Q', m, h => wpE_mono e ρ (fun _ q => wpEs_mono es ρ (fun _ q2 => m _ q2) q) h
theorem wpBop_mono : ∀ (op : BoolOp) (e : Exs) (ρ : List S) {Q Q' : D → Prop}, (∀ d, Q d → Q' d) → wpBop Φ C op e ρ Q → wpBop Φ C op e ρ Q'
  | op, .nil, ρ, Q, Q', m, h => h.elim
  | op, .cons e .nil, ρ, Q, Q', m, h => wpE_mono e ρ (fun _ q => pB_mono (fun _ q => m _ q) q) h
  | op, .cons e (.cons e2 es2), ρ, Q, Q', m, h => wpE_mono e ρ (fun _ q => pB_mono (fun k q4 => by
      cases op <;> cases k <;> first | exact m _ q4 | exact wpBop_mono _ (.cons e2 es2) ρ m q4) q) h
theorem wpTs_mono : ∀ (e : Exs) (ρ : List S) {Q Q' : Bool → Prop}, (∀ d, Q d → Q' d) → wpTs Φ C e ρ Q → wpTs Φ C e ρ Q'
  | .nil, ρ, Q, Q', m, h => m _ h
  | .cons e .nil, ρ, Q, Q', m, h => wpE_mono e ρ (fun _ q => pB_mono m q) h
  | .cons e (.cons e2 es2), ρ, Q, Q', m, h => h.elim
theorem wpIt_mono : ∀ (e : It) (ρ : List S) {Q Q' : List D → Prop}, (∀ d, Q d → Q' d) → wpIt Φ C e ρ Q → wpIt Φ C e ρ Q'
  | .seq e, ρ, Q, Q', m, h => wpE_mono e ρ (fun _ q => pSeq_mono m q) h
  | .rng1 a, ρ, Q, Q', m, h => wpE_mono a ρ (fun _ q => pI_mono (fun _ q => ⟨q.1, m _ q.2⟩) q) h
  | .rng2 a b, ρ, Q, Q', m, h => wpE_mono a ρ (fun _ q => wpE_mono b ρ (fun _ q2 => pI_mono (fun _ q => pI_mono (fun _ q => ⟨q.1, m _ q.2⟩) q) q2) q) h
  | .rng3 a b c, ρ, Q, Q', m, h => wpE_mono a ρ (fun _ q => wpE_mono b ρ (fun _ q2 => wpE_mono c ρ (fun _ q3 => pI_mono (fun _ q => pI_mono (fun _ q => pI_mono (fun _ q => ⟨q.1, m _ q.2⟩) q) q) q3) q2) q) h
  | .enum e, ρ, Q, Q', m, h => wpE_mono e ρ (fun x q => by
      cases x <;> first | exact m _ q | exact q.elim) h
  | .zip a b, ρ, Q, Q', m, h => wpE_mono a ρ (fun x q => wpE_mono b ρ (fun y q2 => by
      cases x <;> cases y <;> first | exact ⟨q2.1, m _ q2.2⟩ | exact q2.elim) q) h
end
theorem wpF_mono (e : Ex) (ρ : List S) {Q Q' : List D → Prop} (m : ∀ d, Q d → Q' d) (h : wpF Φ C e ρ Q) : wpF Φ C e ρ Q' := by
  unfold wpF at h ⊢
  split at h
  · exact wpEs_mono hΦ _ ρ m h
  · exact wpIt_mono hΦ _ ρ (fun ds q => wpLC_mono (fun d ρ _ _ m q => wpBind_mono m _ d ρ q) (fun ρ _ _ m q => wpTs_mono hΦ _ ρ m q) (fun ρ _ _ m q => wpE_mono hΦ _ ρ m q) m ds [] q) h
  · refine wpEs_mono hΦ _ ρ (fun _ q => hΦ _ _ _ _ (fun r q => ?_) q) h
    split at q <;> first | exact m _ q | exact q.elim
  · refine wpE_mono hΦ _ ρ (fun _ q => wpE_mono hΦ _ ρ (fun _ q => ?_) q) h
    split at q <;> first | exact ⟨q.1, m _ q.2⟩ | exact q.elim
  · exact h.elim
theorem wpPar_mono : ∀ (l : List (Nat × Bool)) (es : Exs) (ρ : List S) {Q Q' : List S → Prop}, (∀ d, Q d → Q' d) → wpPar Φ C l es ρ Q → wpPar Φ C l es ρ Q'
  | [], .nil, ρ, Q, Q', m, h => m _ h
  | (i, true) :: l, .cons e es, ρ, Q, Q', m, h => wpF_mono hΦ e ρ (fun _ q => wpPar_mono l es ρ (fun _ q => m _ q) q) h
  | (i, false) :: l, .cons e es, ρ, Q, Q', m, h => wpE_mono hΦ e ρ (fun _ q => wpPar_mono l es ρ (fun _ q => m _ q) q) h
  | [], .cons _ _, ρ, Q, Q', m, h => h.elim
  | (_, _) :: _, .nil, ρ, Q, Q', m, h => h.elim
end
structure End.Le (E E' : End) : Prop where
  nx : ∀ ρ, E.nx ρ → E'.nx ρ
  rt : ∀ s, E.rt s → E'.rt s
  bk : ∀ ρ, E.bk ρ → E'.bk ρ
  ct : ∀ ρ, E.ct ρ → E'.ct ρ
theorem wpFor_mono {b : D → List S → (List S → Prop) → Prop} {body : List S → End → Prop} (hb : ∀ d ρ (Q Q' : List S → Prop), (∀ r, Q r → Q' r) → b d ρ Q → b d ρ Q')
    (hbd : ∀ ρ (E E' : End), E.Le E' → body ρ E → body ρ E') {E E' : End} (m : E.Le E') : ∀ (ds : List D) (ρ : List S), wpFor b body E ds ρ → wpFor b body E' ds ρ
  | [], ρ, h => m.nx _ h
  | d :: ds, ρ, h => hb d ρ _ _ (fun ρ' q => by
      refine hbd ρ' _ _ ?_ q
      exact ⟨fun ρ2 q => wpFor_mono hb hbd m ds ρ2 q, m.rt, m.nx, fun ρ2 q => wpFor_mono hb hbd m ds ρ2 q⟩) h
theorem wpWh_mono {c : List S → (Bool → Prop) → Prop} {body : List S → End → Prop} (hc : ∀ ρ (Q Q' : Bool → Prop), (∀ r, Q r → Q' r) → c ρ Q → c ρ Q')
    (hbd : ∀ ρ (E E' : End), E.Le E' → body ρ E → body ρ E') {E E' : End} (m : E.Le E') : ∀ (n : Nat) (ρ : List S), wpWh c body E n ρ → wpWh c body E' n ρ
  | 0, ρ, h => h.elim
  | n + 1, ρ, h => hc ρ _ _ (fun k q => by
      cases k with
      | true =>
        refine hbd ρ _ _ ?_ q
        exact ⟨fun ρ2 q => wpWh_mono hc hbd m n ρ2 q, m.rt, m.nx, fun ρ2 q => wpWh_mono hc hbd m n ρ2 q⟩
      | false => exact m.nx _ q) h
section
variable {Φ : Phi} {C : Con} (hΦ : PhiMono Φ)
include hΦ
mutual
theorem wpS_mono : ∀ (s : Sm) (ρ : List S) {E E' : End}, E.Le E' → wpS Φ C s ρ E → wpS Φ C s ρ E'
  | .set pk i e, ρ, E, E', m, h => wpE_mono hΦ e _ (fun _ q => ⟨q.1, m.nx _ q.2⟩) h
  | .seto i e, ρ, E, E', m, h => wpF_mono hΦ e _ (fun _ q => m.nx _ q) h
  | .asg tg e, ρ, E, E', m, h => wpE_mono hΦ e _ (fun _ q => wpBind_mono m.nx _ _ _ q) h
  | .par l es, ρ, E, E', m, h => wpPar_mono hΦ l es _ (fun _ q => m.nx _ q) h
  | .app pk i e, ρ, E, E', m, h => by
    unfold wpS at h ⊢
    split at h
    · exact wpE_mono hΦ e _ (fun _ q => ⟨q.1, q.2.1, m.nx _ q.2.2⟩) h
    · exact h.elim
  | .seti pk i k e, ρ, E, E', m, h => by
    unfold wpS at h ⊢
    split at h
    · refine wpE_mono hΦ e _ (fun _ q => ⟨q.1, wpE_mono hΦ k _ (fun _ q => pI_mono (fun _ q => ?_) q) q.2⟩) h
      split at q <;> first | exact m.nx _ q | exact q.elim
    · exact h.elim
  | .expr e, ρ, E, E', m, h => wpE_mono hΦ e _ (fun _ q => m.nx _ q) h
  | .ret e, ρ, E, E', m, h => wpE_mono hΦ e _ (fun _ q => m.rt _ q) h
  | .reto e, ρ, E, E', m, h => wpF_mono hΦ e _ (fun _ q => m.rt _ q) h
  | .retv i, ρ, E, E', m, h => by
    unfold wpS at h ⊢
    split at h <;> first | exact m.rt _ h | exact h.elim
  | .retn, ρ, E, E', m, h => m.rt _ h
  | .ife c a b, ρ, E, E', m, h => wpE_mono hΦ c _ (fun _ q => pB_mono (fun k q => by
      cases k with
      | true => exact wpSs_mono a ρ m q
      | false => exact wpSs_mono b ρ m q) q) h
  | .forr tg it body, ρ, E, E', m, h => wpIt_mono hΦ it _ (fun ds q => wpFor_mono (fun d ρ _ _ m q => wpBind_mono m tg d ρ q) (fun ρ _ _ m q => wpSs_mono body ρ m q) m ds ρ q) h
  | .whil c body, ρ, E, E', m, h => by
    obtain ⟨n, h⟩ := h
    exact ⟨n, wpWh_mono (c := fun ρ' K => wpE Φ C c (see true ρ') fun x => pB x K) (fun ρ _ _ m q => wpE_mono hΦ c _ (fun _ q => pB_mono m q) q) (fun ρ _ _ m q => wpSs_mono body ρ m q) m n ρ h⟩
  | .frz i s, ρ, E, E', m, h => by
    unfold wpS at h ⊢
    split at h <;> first | exact wpS_mono s _ m h | exact h.elim
  | .news i j e, ρ, E, E', m, h => by
    unfold wpS at h ⊢
    split at h
    · exact wpE_mono hΦ e _ (fun _ q => pI_mono (fun _ q => ⟨q.1, m.nx _ q.2⟩) q) h
    · exact h.elim
  | .brk, ρ, E, E', m, h => m.bk _ h
  | .cnt, ρ, E, E', m, h => m.ct _ h
  | .pass, ρ, E, E', m, h => m.nx _ h
  | .never, ρ, E, E', m, h => h.elim
theorem wpSs_mono : ∀ (s : Sms) (ρ : List S) {E E' : End}, E.Le E' → wpSs Φ C s ρ E → wpSs Φ C s ρ E'
  | .nil, ρ, E, E', m, h => m.nx _ h
  | .cons s l, ρ, E, E', m, h => by
    refine wpS_mono s ρ ?_ h
    exact ⟨fun ρ' q => wpSs_mono l ρ' m q, m.rt, m.bk, m.ct⟩
end
end
theorem wpDraw_mono {args : List S} {Q Q' : S → Prop} (m : ∀ r, Q r → Q' r) (h : wpDraw args Q) : wpDraw args Q' := by
  unfold wpDraw at h ⊢
  split at h
  · exact ⟨h.1, fun k h0 h1 => m _ (h.2 k h0 h1)⟩
  · exact h.elim
theorem wpCall_mono (Γ : Nat → Option Fn) (C : Con) : ∀ n, PhiMono (wpCall Γ C n)
  | 0 => fun _ _ _ _ _ h => h.elim
  | n + 1 => fun f args Q Q' m h => by
    unfold wpCall at h ⊢
    split at h
    · exact h.elim
    · exact wpDraw_mono m h
    · split at h
      · refine ⟨h.1, wpSs_mono (wpCall_mono Γ C n) _ _ ?_ h.2⟩
        exact ⟨fun _ q => m _ q, m, fun _ q => q, fun _ q => q⟩
      · exact h.elim
end SW

namespace SW
open PySem PySem.Spec PyProof.Rows L2

abbrev St := List (Option V)
/-! ### data: what stands for it, as the heap grows -/
mutual
inductive Rp (K : PySem.W.Frag) (H : Hp) : V → D → Prop
  | non : Rp K H .non .none
  | bl (b : Bool) : Rp K H (.bl b) (.bool b)
  | int (i : Int) : Rp K H (.int i) (.int i)
  | str (x : Str) : Rp K H (.str x) (.str x)
  | lst {a : Addr} {xs : List V} {ds : List D} : H a = some (.lst xs) → RpAll K H xs ds → Rp K H (.ref a) (.list ds)
  | tup {a : Addr} {xs : List V} {ds : List D} : SqT K H a xs → RpAll K H xs ds → Rp K H (.ref a) (.tuple ds)
inductive RpAll (K : PySem.W.Frag) (H : Hp) : List V → List D → Prop
  | nil : RpAll K H [] []
  | cons {v : V} {vs : List V} {d : D} {ds : List D} : Rp K H v d → RpAll K H vs ds → RpAll K H (v :: vs) (d :: ds)
end
theorem sqT_up {K : PySem.W.Frag} {H H' : Hp} {a : Addr} {xs : List V} (e : Same H H') (h : SqT K H a xs) : SqT K H' a xs := by
  rcases h with (h | ⟨o, h⟩) | h
  · exact .inl (.inl (e _ _ h))
  · exact .inl (.inr ⟨o, e _ _ h⟩)
  · exact .inr h
mutual
theorem dp_up {K : PySem.W.Frag} {H H' : Hp} (e : Same H H') : ∀ (d : D) (v : V), Rp K H v d → Rp K H' v d
  | .none, _, h => by cases h; exact .non
  | .bool b, _, h => by cases h; exact .bl b
  | .int b, _, h => by cases h; exact .int b
  | .str b, _, h => by cases h; exact .str b
  | .list ds, _, h => by
    cases h with
    | lst hs ha => exact .lst (e _ _ hs) (dps_up e ds _ ha)
  | .tuple ds, _, h => by
    cases h with
    | tup hs ha => exact .tup (sqT_up e hs) (dps_up e ds _ ha)
  | .dict _, _, h => by cases h
theorem dps_up {K : PySem.W.Frag} {H H' : Hp} (e : Same H H') : ∀ (ds : List D) (vs : List V), RpAll K H vs ds → RpAll K H' vs ds
  | [], _, h => by cases h; exact .nil
  | d :: ds, _, h => by
    cases h with
    | cons h1 h2 => exact .cons (dp_up e d _ h1) (dps_up e ds _ h2)
end
mutual
theorem rp_dp {K : PySem.W.Frag} {H : Hp} : ∀ (d : D) (v : V), Rp K H v d → Dp K H v d
  | .none, _, h => by cases h; exact .non
  | .bool b, _, h => by cases h; exact .bl b
  | .int b, _, h => by cases h; exact .int b
  | .str b, _, h => by cases h; exact .str b
  | .list ds, _, h => by
    cases h with
    | lst hs ha => exact .lst (SqL.of hs) (rps_dp ds _ ha)
  | .tuple ds, _, h => by
    cases h with
    | tup hs ha => exact .tup hs (rps_dp ds _ ha)
  | .dict _, _, h => by cases h
theorem rps_dp {K : PySem.W.Frag} {H : Hp} : ∀ (ds : List D) (vs : List V), RpAll K H vs ds → DpAll K H vs ds
  | [], _, h => by cases h; exact .nil
  | d :: ds, _, h => by
    cases h with
    | cons h1 h2 => exact .cons (rp_dp d _ h1) (rps_dp ds _ h2)
end
theorem dps_len {K : PySem.W.Frag} {H : Hp} : ∀ {ds : List D} {vs : List V}, RpAll K H vs ds → vs.length = ds.length
  | [], _, h => by cases h; rfl
  | d :: ds, _, h => by
    cases h with
    | cons h1 h2 => simp [dps_len h2]
theorem dps_app {K : PySem.W.Frag} {H : Hp} : ∀ {ds es : List D} {vs ws : List V}, RpAll K H vs ds → RpAll K H ws es → RpAll K H (vs ++ ws) (ds ++ es)
  | [], _, _, _, h, h' => by cases h; exact h'
  | d :: ds, _, _, _, h, h' => by
    cases h with
    | cons h1 h2 => exact .cons h1 (dps_app h2 h')
theorem dps_get {K : PySem.W.Frag} {H : Hp} : ∀ {ds : List D} {vs : List V} {i : Nat} {d : D}, RpAll K H vs ds → ds[i]? = some d → ∃ v, vs[i]? = some v ∧ Rp K H v d
  | [], _, _, _, h, e => by simp at e
  | d :: ds, _, 0, _, h, e => by
    cases h with
    | cons h1 h2 => simp at e; subst e; exact ⟨_, rfl, h1⟩
  | d :: ds, _, i + 1, _, h, e => by
    cases h with
    | cons h1 h2 =>
      obtain ⟨v, h3, h4⟩ := dps_get (i := i) h2 (by simpa using e)
      exact ⟨v, by simpa using h3, h4⟩
theorem dps_get' {K : PySem.W.Frag} {H : Hp} : ∀ {ds : List D} {vs : List V} {i : Nat} {v : V}, RpAll K H vs ds → vs[i]? = some v → ∃ d, ds[i]? = some d ∧ Rp K H v d
  | [], _, _, _, h, e => by cases h; simp at e
  | d :: ds, _, 0, _, h, e => by
    cases h with
    | cons h1 h2 => simp at e; subst e; exact ⟨_, rfl, h1⟩
  | d :: ds, _, i + 1, _, h, e => by
    cases h with
    | cons h1 h2 =>
      obtain ⟨v, h3, h4⟩ := dps_get' (i := i) h2 (by simpa using e)
      exact ⟨v, by simpa using h3, h4⟩
theorem dps_take {K : PySem.W.Frag} {H : Hp} : ∀ {ds : List D} {vs : List V} (n : Nat), RpAll K H vs ds → RpAll K H (vs.take n) (ds.take n)
  | _, _, 0, _ => by simp only [List.take_zero]; exact .nil
  | [], _, n + 1, h => by cases h; exact .nil
  | d :: ds, _, n + 1, h => by
    cases h with
    | cons h1 h2 => exact .cons h1 (dps_take n h2)
theorem dps_drop {K : PySem.W.Frag} {H : Hp} : ∀ {ds : List D} {vs : List V} (n : Nat), RpAll K H vs ds → RpAll K H (vs.drop n) (ds.drop n)
  | _, _, 0, h => h
  | [], _, n + 1, h => by cases h; exact .nil
  | d :: ds, _, n + 1, h => by
    cases h with
    | cons h1 h2 => exact dps_drop n h2
theorem dps_set {K : PySem.W.Frag} {H : Hp} {v : V} {d : D} (x : Rp K H v d) : ∀ {ds : List D} {vs : List V} (n : Nat), RpAll K H vs ds → RpAll K H (vs.set n v) (ds.set n d)
  | [], _, _, h => by cases h; exact .nil
  | e :: ds, _, 0, h => by
    cases h with
    | cons h1 h2 => exact .cons x h2
  | e :: ds, _, n + 1, h => by
    cases h with
    | cons h1 h2 => exact .cons h1 (dps_set x n h2)
theorem dps_rev {K : PySem.W.Frag} {H : Hp} : ∀ {ds : List D} {vs : List V}, RpAll K H vs ds → RpAll K H vs.reverse ds.reverse
  | [], _, h => by cases h; exact .nil
  | e :: ds, _, h => by
    cases h with
    | cons h1 h2 =>
      rw [List.reverse_cons, List.reverse_cons]
      exact dps_app (dps_rev h2) (.cons h1 .nil)
theorem dps_rep {K : PySem.W.Frag} {H : Hp} {ds : List D} {vs : List V} (h : RpAll K H vs ds) : ∀ n : Nat, RpAll K H (List.replicate n vs).flatten (List.replicate n ds).flatten
  | 0 => .nil
  | n + 1 => by
    rw [List.replicate_succ, List.replicate_succ, List.flatten_cons, List.flatten_cons]
    exact dps_app h (dps_rep h n)

/-! ### the source of draws -/
def SrcOk (x y : Int) : Prop := 0 ≤ x ∧ 0 ≤ y ∧ y < 4294967296
def SrcAt (H : Hp) (a : Addr) : Prop := ∃ x y, H a = some (.lst [.int x, .int y]) ∧ SrcOk x y
/-- what is held of the heap: Hi the part that never changes, as the source -/
structure Wo (as : Option Addr) (Hi H : Hp) : Prop where
  sub : Same Hi H
  src : ∀ a, as = some a → Hi a = none ∧ SrcAt H a
structure Go (as : Option Addr) (Hi H Hi' H' : Hp) : Prop where
  imm : Same Hi Hi'
  sub : Same Hi' H'
  keep : ∀ b o, H b = some o → as ≠ some b → H' b = some o
  out : ∀ b, H b ≠ none → Hi b = none → Hi' b = none
  src : ∀ a, as = some a → SrcAt H' a
theorem Go.refl {as : Option Addr} {Hi H : Hp} (w : Wo as Hi H) : Go as Hi H Hi H :=
  ⟨Same.refl _, w.sub, fun _ _ h _ => h, fun _ _ h => h, fun a h => (w.src a h).2⟩
theorem Go.wo {as : Option Addr} {Hi H Hi' H' : Hp} (w : Wo as Hi H) (g : Go as Hi H Hi' H') : Wo as Hi' H' :=
  ⟨g.sub, fun a h => ⟨g.out a (fun e => by
    obtain ⟨_, x, y, e2, _⟩ := w.src a h
    rw [e] at e2
    cases e2) (w.src a h).1, g.src a h⟩⟩
theorem Go.trans {as : Option Addr} {Hi H Hi1 H1 Hi2 H2 : Hp} (w : Wo as Hi H) (g : Go as Hi H Hi1 H1) (g2 : Go as Hi1 H1 Hi2 H2) : Go as Hi H Hi2 H2 := by
  refine ⟨g.imm.trans g2.imm, g2.sub, fun b o h n => g2.keep b o (g.keep b o h n) n, fun b h n => ?_, g2.src⟩
  refine g2.out b (fun e => ?_) (g.out b h n)
  by_cases hb : as = some b
  · obtain ⟨x, y, e2, _⟩ := g.src b hb
    rw [e] at e2
    cases e2
  · cases q : H b with
    | none => exact h q
    | some o =>
      rw [g.keep b o q hb] at e
      cases e
/-- a new object, never to change -/
theorem Go.new {as : Option Addr} {Hi H : Hp} (w : Wo as Hi H) {p : Addr} {o : HO} (hp : H p = none) : Go as Hi H (upd Hi p o) (upd H p o) := by
  have hi : Hi p = none := by
    cases q : Hi p with
    | none => rfl
    | some o => rw [w.sub _ _ q] at hp; cases hp
  refine ⟨fun b o h => ?_, fun b o h => ?_, fun b o h _ => ?_, fun b h n => ?_, fun a h => ?_⟩
  · rw [upd_ne (ne_of_none h hi)]; exact h
  · by_cases e : b = p
    · subst e; rw [upd_same] at h ⊢; exact h
    · rw [upd_ne e] at h ⊢; exact w.sub _ _ h
  · rw [upd_ne (ne_of_none h hp)]; exact h
  · by_cases e : b = p
    · subst e; exact absurd hp h
    · rw [upd_ne e]; exact n
  · obtain ⟨_, x, y, e, s⟩ := w.src a h
    exact ⟨x, y, by rw [upd_ne (ne_of_none e hp)]; exact e, s⟩
/-- a new object that may change -/
theorem Go.newO {as : Option Addr} {Hi H : Hp} (w : Wo as Hi H) {p : Addr} {o : HO} (hp : H p = none) : Go as Hi H Hi (upd H p o) := by
  refine ⟨Same.refl _, fun b o h => ?_, fun b o h _ => ?_, fun b h n => n, fun a h => ?_⟩
  · rw [upd_ne (ne_of_none (w.sub _ _ h) hp)]; exact w.sub _ _ h
  · rw [upd_ne (ne_of_none h hp)]; exact h
  · obtain ⟨_, x, y, e, s⟩ := w.src a h
    exact ⟨x, y, by rw [upd_ne (ne_of_none e hp)]; exact e, s⟩
theorem hi_none {as : Option Addr} {Hi H : Hp} (w : Wo as Hi H) {p : Addr} (hp : H p = none) : Hi p = none := by
  cases q : Hi p with
  | none => rfl
  | some o => rw [w.sub _ _ q] at hp; cases hp
/-- .. is frozen from here on -/
theorem Go.freeze {as : Option Addr} {Hi H : Hp} (w : Wo as Hi H) {p : Addr} {o : HO} (hp : H p = some o) (hi : Hi p = none) (ha : as ≠ some p) : Wo as (upd Hi p o) H := by
  refine ⟨fun b o h => ?_, fun a h => ?_⟩
  · by_cases e : b = p
    · subst e; rw [upd_same] at h; cases h; exact hp
    · rw [upd_ne e] at h; exact w.sub _ _ h
  · have : a ≠ p := fun e => ha (e ▸ h)
    rw [upd_ne this]
    exact w.src a h

/-! ### the slots, as an expression sees them -/
def XSlot (K : PySem.W.Frag) (as : Option Addr) (Hi : Hp) (σ : St) (i : Nat) : S → Prop
  | .val d => ∃ v, σ[i]? = some (some v) ∧ Rp K Hi v d
  | .src => ∃ a, as = some a ∧ σ[i]? = some (some (.ref a))
  | .scr ns => ∃ a, σ[i]? = some (some (.ref a)) ∧ SqL K Hi a (ns.map V.int)
  | _ => True
structure XOk (K : PySem.W.Frag) (as : Option Addr) (Hi H : Hp) (σ : St) (ρ : List S) : Prop extends Wo as Hi H where
  len : ρ.length ≤ σ.length
  slot : ∀ i, XSlot K as Hi σ i (getS ρ i)
theorem XOk.go {K : PySem.W.Frag} {as : Option Addr} {Hi H Hi' H' : Hp} {σ : St} {ρ : List S} (x : XOk K as Hi H σ ρ) (g : Go as Hi H Hi' H') : XOk K as Hi' H' σ ρ :=
  { toWo := g.wo x.toWo, len := x.len, slot := fun i => by
      have h := x.slot i
      cases e : getS ρ i with
      | no => trivial
      | own ds => trivial
      | src => rw [e] at h; exact h
      | scr ns =>
        rw [e] at h
        obtain ⟨a, h1, h2⟩ := h
        exact ⟨a, h1, g.imm.seq h2⟩
      | val d =>
        rw [e] at h
        obtain ⟨v, h1, h2⟩ := h
        exact ⟨v, h1, dp_up g.imm _ _ h2⟩ }

/-! ### what an expression, a test, arguments read -/
section
variable (K : PySem.W.Frag) (Φ : Phi) (C : Con)
/-- the wish of a datum, as a wish of a value -/
def QD (as : Option Addr) (Hi H : Hp) (Q : VK) (d : D) : Prop := ∀ v H' Hi', Go as Hi H Hi' H' → Rp K Hi' v d → Q v H'
def QDs (as : Option Addr) (Hi H : Hp) (Q : List V → Hp → Prop) (ds : List D) : Prop := ∀ vs H' Hi', Go as Hi H Hi' H' → RpAll K Hi' vs ds → Q vs H'
def tE (x : Ex) : TE := fun σ H Q => ∃ as Hi ρ, XOk K as Hi H σ ρ ∧ wpE Φ C x ρ (QD K as Hi H Q)
def tT (x : Ex) : TT := fun σ H Q => tE K Φ C x σ H fun v H' => ∃ k, v = .bl k ∧ Q k H'
def tA (x : Exs) : TA := fun σ H Q => ∃ as Hi ρ, XOk K as Hi H σ ρ ∧ wpEs Φ C x ρ (QDs K as Hi H Q)
/-- a new list: not yet frozen -/
def QF (as : Option Addr) (Hi H : Hp) (Q : VK) (ds : List D) : Prop := ∀ p vs H' Hi', Go as Hi H Hi' H' → H p = none → Hi' p = none → as ≠ some p → H' p = some (.lst vs) → RpAll K Hi' vs ds → Q (.ref p) H'
def tF (x : Ex) : TE := fun σ H Q => ∃ as Hi ρ, XOk K as Hi H σ ρ ∧ wpF Φ C x ρ (QF K as Hi H Q)
end
theorem peI {X : Cx} {e : Expr} {t t' : TE} (h : PE X e t) (m : ∀ σ H Q, t' σ H Q → t σ H Q) : PE X e t' := ⟨fun pins s σ H Q I q => h.run pins s σ H Q I (m σ H Q q)⟩
theorem ptI {X : Cx} {e : Expr} {t t' : TT} (h : PT X e t) (m : ∀ σ H Q, t' σ H Q → t σ H Q) : PT X e t' := ⟨fun pins s σ H Q I q => h.run pins s σ H Q I (m σ H Q q)⟩
theorem paI {X : Cx} {e : List Expr} {t t' : TA} (h : PA X e t) (m : ∀ σ H Q, t' σ H Q → t σ H Q) : PA X e t' := ⟨fun pos pins s σ H Q I q => h.run pos pins s σ H Q I (m σ H Q q)⟩
section
variable {X : Cx} {K : PySem.W.Frag} {Φ : Phi} {C : Con} {as : Option Addr} {Hi H Hi' H' : Hp} {σ : St} {ρ : List S}
theorem QD.here {Q : VK} {v : V} {d : D} (w : Wo as Hi H) (q : QD K as Hi H Q d) (h : Rp K Hi v d) : Q v H := q v H Hi (Go.refl w) h
theorem QD.go {Q : VK} {d : D} (w : Wo as Hi H) (q : QD K as Hi H Q d) (g : Go as Hi H Hi' H') : QD K as Hi' H' Q d := fun v H2 Hi2 g2 h => q v H2 Hi2 (g.trans w g2) h
theorem QDs.go {Q : List V → Hp → Prop} {d : List D} (w : Wo as Hi H) (q : QDs K as Hi H Q d) (g : Go as Hi H Hi' H') : QDs K as Hi' H' Q d := fun v H2 Hi2 g2 h => q v H2 Hi2 (g.trans w g2) h
/-- what follows a datum's reading: the same from any later state -/
theorem tE_then {x y : Ex} {Q : VK} {f : D → (D → Prop) → Prop} (ok : XOk K as Hi H σ ρ) (w : wpE Φ C x ρ fun d => f d (QD K as Hi H Q))
    (hΦ : PhiMono Φ) {R : V → Hp → Prop} (h : ∀ d, f d (QD K as Hi H Q) → ∀ v H' Hi', Go as Hi H Hi' H' → Rp K Hi' v d → R v H') : tE K Φ C x σ H R :=
  ⟨as, Hi, ρ, ok, wpE_mono hΦ x ρ (fun d q v H' Hi' g hd => h d q v H' Hi' g hd) w⟩
end
end SW

namespace SW
open PySem PySem.Spec PyProof.Rows L2

/-! ### operators by data -/
def vB (K : PySem.W.Frag) (f : D → D → (D → Prop) → Prop) : R2 := fun x y H Q => ∃ as Hi d e, Wo as Hi H ∧ Rp K Hi x d ∧ Rp K Hi y e ∧ f d e (QD K as Hi H Q)
def v1 (K : PySem.W.Frag) (f : D → (D → Prop) → Prop) : V → Hp → VK → Prop := fun x H Q => ∃ as Hi d, Wo as Hi H ∧ Rp K Hi x d ∧ f d (QD K as Hi H Q)
section
variable {X : Cx} {K : PySem.W.Frag} {Φ : Phi} {C : Con} {as : Option Addr} {Hi H : Hp} {σ : St} {ρ : List S} {Q : VK}
/-- a new tuple, a new list -/
theorem new_tup {p : Addr} {vs : List V} {ds : List D} (w : Wo as Hi H) (q : QD K as Hi H Q (.tuple ds)) (h : RpAll K Hi vs ds) (hp : H p = none) : Q (.ref p) (upd H p (.tup vs)) := by
  have g := Go.new w (o := .tup vs) hp
  exact q _ _ _ g (.tup (.inl (.inl upd_same)) (dps_up g.imm _ _ h))
theorem new_lst {p : Addr} {vs : List V} {ds : List D} (w : Wo as Hi H) (q : QD K as Hi H Q (.list ds)) (h : RpAll K Hi vs ds) (hp : H p = none) : Q (.ref p) (upd H p (.lst vs)) := by
  have g := Go.new w (o := .lst vs) hp
  exact q _ _ _ g (.lst upd_same (dps_up g.imm _ _ h))
theorem hi_some (w : Wo as Hi H) {a : Addr} {o : HO} (h : Hi a = some o) : H a = some o := w.sub _ _ h
theorem opBin (op : Operator) : OpR X (binaryOp op) (vB X.K (pBin op)) := by
  intro pins s σ H x y v u Q I rx ry h
  obtain ⟨as, Hi, d, e, w, hd, he, p⟩ := h
  unfold pBin at p
  split at p
  · cases hd; cases he
    exact op_add pins s σ H _ _ v u Q I rx ry ⟨_, _, rfl, rfl, p.here w (.int _)⟩
  · cases hd; cases he
    exact op_add_str pins s σ H _ _ v u Q I rx ry ⟨_, _, rfl, rfl, p.1, p.2.here w (.str _)⟩
  · cases hd with
    | @tup a xs ds ha hx =>
      cases he with
      | @tup b ys es hb hy =>
        have l1 := dps_len hx
        have l2 := dps_len hy
        refine op_catA pins s σ H _ _ v u Q I rx ry ⟨a, b, xs, ys, rfl, rfl, sqT_up w.sub ha, sqT_up w.sub hb, by omega, fun e => ?_, fun _ e => ?_, fun _ _ p' hp => ?_⟩
        · subst e
          cases hx
          exact p.2.here w (by rw [List.nil_append]; exact .tup hb hy)
        · subst e
          cases hy
          exact p.2.here w (by rw [List.append_nil]; exact .tup ha hx)
        · exact new_tup w p.2 (dps_app hx hy) hp
  · cases hd with
    | @lst a xs ds ha hx =>
      cases he with
      | @lst b ys es hb hy =>
        have l1 := dps_len hx
        have l2 := dps_len hy
        exact op_cat pins s σ H _ _ v u Q I rx ry ⟨a, b, xs, ys, rfl, rfl, w.sub _ _ ha, w.sub _ _ hb, by omega, fun p' hp => new_lst w p.2 (dps_app hx hy) hp⟩
  · cases hd; cases he
    exact op_sub pins s σ H _ _ v u Q I rx ry ⟨_, _, rfl, rfl, p.here w (.int _)⟩
  · cases hd; cases he
    exact op_mul pins s σ H _ _ v u Q I rx ry ⟨_, _, rfl, rfl, p.1, p.2.here w (.int _)⟩
  · obtain ⟨⟨p1, p2, p3⟩, p⟩ := p
    cases he
    cases hd with
    | @lst a xs ds ha hx =>
      have l1 := dps_len hx
      refine op_rep pins s σ H _ _ v u Q I rx ry ⟨a, _, xs, rfl, rfl, w.sub _ _ ha, by omega, by omega, ?_, fun p' hp => new_lst w p (dps_rep hx _) hp⟩
      rw [l1]
      exact Nat.le_trans (Nat.mul_le_mul p3 (show _ ≤ 1000 by omega)) (by decide)
  · obtain ⟨⟨p1, p2, p4, p3⟩, p⟩ := p
    cases he
    cases hd with
    | @tup a xs ds ha hx =>
      have l1 := dps_len hx
      refine op_repT pins s σ H _ _ v u Q I rx ry ⟨a, _, xs, rfl, rfl, sqT_up w.sub ha, fun e => p4 ?_, p1, p2, by omega, fun p' hp => new_tup w p (dps_rep hx _) hp⟩
      subst e
      cases hx
      rfl
  · cases hd; cases he
    exact op_mod pins s σ H _ _ v u Q I rx ry ⟨_, _, rfl, rfl, p.1, p.2.here w (.int _)⟩
  · cases hd; cases he
    exact op_fdiv pins s σ H _ _ v u Q I rx ry ⟨_, _, rfl, rfl, p.1, p.2.here w (.int _)⟩
  · exact p.elim

theorem opEqD (hu : X.A.units + 64 < cLine) {n : Bool} {op : CmpOp} (hop : (n = false ∧ op = .Eq) ∨ (n = true ∧ op = .NotEq)) :
    OpR X (compareOp op) (vB X.K fun x y Q => pEq x y fun b => Q (.bool (b ^^ n))) := by
  intro pins s σ H x y v u Q I rx ry h
  obtain ⟨as, Hi, d, e, w, hd, he, p⟩ := h
  have sc : ∀ {b : Bool}, scal x y = true → b = decide (x = y) → QD X.K as Hi H Q (.bool (b ^^ n)) → wpAny (model X.prog X.w) X.A (compareOp op v u) (EP X pins σ Q) X.xe s := fun {b} h1 h2 q => by
    subst h2
    rcases hop with ⟨rfl, rfl⟩ | ⟨rfl, rfl⟩
    · exact op_eq pins s σ H x y v u Q I rx ry ⟨h1, by have := q.here w (.bl _); simpa using this⟩
    · exact op_ne pins s σ H x y v u Q I rx ry ⟨h1, by have := q.here w (.bl _); simpa using this⟩
  have gen : okD d → okD e → QD X.K as Hi H Q (.bool (PyData.eqv d e ^^ n)) → wpAny (model X.prog X.w) X.A (compareOp op v u) (EP X pins σ Q) X.xe s := fun h1 h2 q => by
    rcases hop with ⟨rfl, rfl⟩ | ⟨rfl, rfl⟩
    · exact op_eqD hu pins s σ H x y v u Q I rx ry ⟨d, e, rp_dp _ _ (dp_up w.sub _ _ hd), rp_dp _ _ (dp_up w.sub _ _ he), h1, h2, by have := q.here w (.bl _); simpa using this⟩
    · exact op_neD hu pins s σ H x y v u Q I rx ry ⟨d, e, rp_dp _ _ (dp_up w.sub _ _ hd), rp_dp _ _ (dp_up w.sub _ _ he), h1, h2, by have := q.here w (.bl _); simpa using this⟩
  unfold pEq at p
  split at p
  · cases hd; cases he
    exact sc rfl (by simp) p
  · cases hd; cases he
    exact sc rfl (by simp) p
  · cases hd; cases he
    exact sc rfl (by simp) p
  · exact gen p.1 p.2.1 p.2.2
theorem opIs {n : Bool} {op : CmpOp} (hop : (n = false ∧ op = .Is) ∨ (n = true ∧ op = .IsNot)) :
    OpR X (compareOp op) (vB X.K fun x y Q => pIs x y fun b => Q (.bool (b ^^ n))) := by
  intro pins s σ H x y v u Q I rx ry h
  obtain ⟨as, Hi, d, e, w, hd, he, p⟩ := h
  have nn : y = .non → QD X.K as Hi H Q (.bool (decide (x = .non) ^^ n)) → wpAny (model X.prog X.w) X.A (compareOp op v u) (EP X pins σ Q) X.xe s := fun h1 q => by
    rcases hop with ⟨rfl, rfl⟩ | ⟨rfl, rfl⟩
    · exact op_isN pins s σ H x y v u Q I rx ry ⟨h1, by have := q.here w (.bl _); simpa using this⟩
    · exact op_notN pins s σ H x y v u Q I rx ry ⟨h1, by have := q.here w (.bl _); simpa using this⟩
  unfold pIs at p
  split at p
  · cases hd; cases he
    exact nn rfl p
  · cases hd; cases he
    rcases hop with ⟨rfl, rfl⟩ | ⟨rfl, rfl⟩
    · exact op_isBl pins s σ H _ _ v u Q I rx ry ⟨_, _, rfl, rfl, by have := p.here w (.bl _); simpa using this⟩
    · exact op_notBl pins s σ H _ _ v u Q I rx ry ⟨_, _, rfl, rfl, by have := p.here w (.bl _); simpa using this⟩
  all_goals first
    | exact p.elim
    | (cases hd; cases he; exact nn rfl p)
theorem opInD (hu : X.A.units + 65 < cLine) {n : Bool} {op : CmpOp} (hop : (n = false ∧ op = .In) ∨ (n = true ∧ op = .NotIn)) :
    OpR X (compareOp op) (vB X.K fun x y Q => pIn x y fun b => Q (.bool (b ^^ n))) := by
  intro pins s σ H x y v u Q I rx ry h
  obtain ⟨as, Hi, d, e, w, hd, he, p⟩ := h
  unfold pIn at p
  split at p
  · cases hd; cases he
    rcases hop with ⟨rfl, rfl⟩ | ⟨rfl, rfl⟩
    · exact op_in_str pins s σ H _ _ v u Q I rx ry ⟨_, _, rfl, rfl, by have := p.here w (.bl _); simpa using this⟩
    · exact op_notIn_str pins s σ H _ _ v u Q I rx ry ⟨_, _, rfl, rfl, by have := p.here w (.bl _); simpa using this⟩
  · rcases hop with ⟨rfl, rfl⟩ | ⟨rfl, rfl⟩
    · exact op_inD hu pins s σ H _ _ v u Q I rx ry ⟨_, _, rp_dp _ _ (dp_up w.sub _ _ hd), rp_dp _ _ (dp_up w.sub _ _ he), p.1, p.2.1, by have := p.2.2.here w (.bl _); simpa using this⟩
    · exact op_notInD hu pins s σ H _ _ v u Q I rx ry ⟨_, _, rp_dp _ _ (dp_up w.sub _ _ hd), rp_dp _ _ (dp_up w.sub _ _ he), p.1, p.2.1, by have := p.2.2.here w (.bl _); simpa using this⟩
  · obtain ⟨as1, r1⟩ := Dp.reads I _ _ _ (rp_dp _ _ (dp_up w.sub _ _ hd)) rx
    obtain ⟨bs1, r2⟩ := Dp.reads I _ _ _ (rp_dp _ _ (dp_up w.sub _ _ he)) ry
    rcases hop with ⟨rfl, rfl⟩ | ⟨rfl, rfl⟩
    · exact SeqAt.in_tuple_reads r2 r1 (SeqAt.canLay_of_shaped p.2.1) (SeqAt.canLay_of_shaped p.1) (room_in_shaped p.1 hu) ⟨.bl _, H, I, rfl, by have := p.2.2.here w (.bl _); simpa using this⟩
    · exact SeqAt.notIn_tuple_reads r2 r1 (SeqAt.canLay_of_shaped p.2.1) (SeqAt.canLay_of_shaped p.1) (room_in_shaped p.1 hu) ⟨.bl _, H, I, rfl, by have := p.2.2.here w (.bl _); simpa using this⟩
  · exact p.elim
theorem opLt (hu : X.A.units + 65 < cLine) : OpR X (compareOp .Lt) (vB X.K fun x y Q => pLt x y fun b => Q (.bool b)) := by
  intro pins s σ H x y v u Q I rx ry h
  obtain ⟨as, Hi, d, e, w, hd, he, p⟩ := h
  unfold pLt at p
  split at p
  · cases hd; cases he
    exact op_lt pins s σ H _ _ v u Q I rx ry ⟨_, _, rfl, rfl, p.here w (.bl _)⟩
  · obtain ⟨as1, r1⟩ := Dp.reads I _ _ _ (rp_dp _ _ (dp_up w.sub _ _ hd)) rx
    obtain ⟨bs1, r2⟩ := Dp.reads I _ _ _ (rp_dp _ _ (dp_up w.sub _ _ he)) ry
    refine PySem.W.rcLt_alike _ _ X.A s v u _ _ r1 r2 p.1 (fun z => nomatch z) ?_ X.prog X.w X.xe _ ⟨.bl _, H, I, rfl, p.2.2.here w (.bl _)⟩
    have := p.2.1
    have h2 := Nat.min_le_left (PyData.depth (.tuple ‹_›)) (PyData.depth (.tuple ‹_›))
    omega
  · exact p.elim
theorem opCmp (hu : X.A.units + 65 < cLine) : ∀ op : CmpOp, OpR X (compareOp op) (vB X.K (pCmp op))
  | .Eq => by
    have h := opEqD (X := X) (by omega) (n := false) (op := .Eq) (.inl ⟨rfl, rfl⟩)
    simp only [Bool.xor_false] at h
    exact h
  | .NotEq => by
    have h := opEqD (X := X) (by omega) (n := true) (op := .NotEq) (.inr ⟨rfl, rfl⟩)
    simp only [Bool.xor_true] at h
    exact h
  | .Is => by
    have h := opIs (X := X) (n := false) (op := .Is) (.inl ⟨rfl, rfl⟩)
    simp only [Bool.xor_false] at h
    exact h
  | .IsNot => by
    have h := opIs (X := X) (n := true) (op := .IsNot) (.inr ⟨rfl, rfl⟩)
    simp only [Bool.xor_true] at h
    exact h
  | .In => by
    have h := opInD (X := X) hu (n := false) (op := .In) (.inl ⟨rfl, rfl⟩)
    simp only [Bool.xor_false] at h
    exact h
  | .NotIn => by
    have h := opInD (X := X) hu (n := true) (op := .NotIn) (.inr ⟨rfl, rfl⟩)
    simp only [Bool.xor_true] at h
    exact h
  | .Lt => opLt hu
  | .LtE => by
    intro pins s σ H x y v u Q I rx ry h
    obtain ⟨as, Hi, d, e, w, hd, he, p⟩ := h
    unfold pCmp pLe at p
    dsimp only at p
    split at p
    · cases hd; cases he
      exact op_le pins s σ H _ _ v u Q I rx ry ⟨_, _, rfl, rfl, p.here w (.bl _)⟩
    · exact p.elim
  | .Gt => by
    intro pins s σ H x y v u Q I rx ry h
    obtain ⟨as, Hi, d, e, w, hd, he, p⟩ := h
    unfold pCmp pGt at p
    dsimp only at p
    split at p
    · cases hd; cases he
      exact op_gt pins s σ H _ _ v u Q I rx ry ⟨_, _, rfl, rfl, p.here w (.bl _)⟩
    · exact p.elim
  | .GtE => by
    intro pins s σ H x y v u Q I rx ry h
    obtain ⟨as, Hi, d, e, w, hd, he, p⟩ := h
    unfold pCmp pGe at p
    dsimp only at p
    split at p
    · cases hd; cases he
      exact op_ge pins s σ H _ _ v u Q I rx ry ⟨_, _, rfl, rfl, p.here w (.bl _)⟩
    · exact p.elim
end
end SW

namespace SW
open PySem PySem.Spec PyProof.Rows L2

/-! ### lists of one kind -/
theorem as_bools {K : PySem.W.Frag} {H : Hp} : ∀ {ds : List D} {vs : List V} {bs : List Bool}, RpAll K H vs ds → asBools ds = some bs → vs = bs.map V.bl
  | [], _, _, h, e => by cases h; cases e; rfl
  | d :: ds, _, bs, h, e => by
    cases h with
    | cons h1 h2 =>
      cases d with
      | bool b =>
        cases h1
        unfold asBools at e
        cases q : asBools ds with
        | none => rw [q] at e; cases e
        | some r => rw [q] at e; cases e; rw [as_bools h2 q]; rfl
      | _ => cases e
theorem as_ints {K : PySem.W.Frag} {H : Hp} : ∀ {ds : List D} {vs : List V} {bs : List Int}, RpAll K H vs ds → asInts ds = some bs → vs = bs.map V.int
  | [], _, _, h, e => by cases h; cases e; rfl
  | d :: ds, _, bs, h, e => by
    cases h with
    | cons h1 h2 =>
      cases d with
      | int b =>
        cases h1
        unfold asInts at e
        cases q : asInts ds with
        | none => rw [q] at e; cases e
        | some r => rw [q] at e; cases e; rw [as_ints h2 q]; rfl
      | _ => cases e
theorem as_strs {K : PySem.W.Frag} {H : Hp} : ∀ {ds : List D} {vs : List V} {bs : List Str}, RpAll K H vs ds → asStrs ds = some bs → vs = bs.map V.str
  | [], _, _, h, e => by cases h; cases e; rfl
  | d :: ds, _, bs, h, e => by
    cases h with
    | cons h1 h2 =>
      cases d with
      | str b =>
        cases h1
        unfold asStrs at e
        cases q : asStrs ds with
        | none => rw [q] at e; cases e
        | some r => rw [q] at e; cases e; rw [as_strs h2 q]; rfl
      | _ => cases e
theorem foldl_max : ∀ (l : List Int) (x : Int), l.foldl max x ∈ x :: l ∧ ∀ y ∈ x :: l, y ≤ l.foldl max x
  | [], x => ⟨by simp, by simp⟩
  | z :: l, x => by
    obtain ⟨h1, h2⟩ := foldl_max l (max x z)
    rw [List.foldl_cons]
    refine ⟨?_, fun y hy => ?_⟩
    · rcases List.mem_cons.mp h1 with e | e
      · rw [e]
        rcases Int.le_total x z with q | q
        · rw [Int.max_eq_right q]; simp
        · rw [Int.max_eq_left q]; simp
      · simp [e]
    · have h3 := h2 (max x z) (by simp)
      rcases List.mem_cons.mp hy with e | hy
      · subst e; exact Int.le_trans (Int.le_max_left _ _) h3
      · rcases List.mem_cons.mp hy with e | hy
        · subst e; exact Int.le_trans (Int.le_max_right _ _) h3
        · exact h2 y (by simp [hy])
theorem foldl_min : ∀ (l : List Int) (x : Int), l.foldl min x ∈ x :: l ∧ ∀ y ∈ x :: l, l.foldl min x ≤ y
  | [], x => ⟨by simp, by simp⟩
  | z :: l, x => by
    obtain ⟨h1, h2⟩ := foldl_min l (min x z)
    rw [List.foldl_cons]
    refine ⟨?_, fun y hy => ?_⟩
    · rcases List.mem_cons.mp h1 with e | e
      · rw [e]
        rcases Int.le_total x z with q | q
        · rw [Int.min_eq_left q]; simp
        · rw [Int.min_eq_right q]; simp
      · simp [e]
    · have h3 := h2 (min x z) (by simp)
      rcases List.mem_cons.mp hy with e | hy
      · subst e; exact Int.le_trans h3 (Int.min_le_left _ _)
      · rcases List.mem_cons.mp hy with e | hy
        · subst e; exact Int.le_trans h3 (Int.min_le_right _ _)
        · exact h2 y (by simp [hy])
theorem maxI_mem : ∀ {l : List Int}, l ≠ [] → maxI l ∈ l ∧ ∀ y ∈ l, y ≤ maxI l
  | [], h => absurd rfl h
  | x :: l, _ => foldl_max l x
theorem minI_mem : ∀ {l : List Int}, l ≠ [] → minI l ∈ l ∧ ∀ y ∈ l, minI l ≤ y
  | [], h => absurd rfl h
  | x :: l, _ => foldl_min l x
/-! ### sorted -/
theorem rps_zip {K : PySem.W.Frag} {H : Hp} : ∀ {ds : List D} {vs : List V}, RpAll K H vs ds → ∀ b ∈ vs.zip ds, Rp K H b.1 b.2
  | [], _, h, b, hb => by simp at hb
  | d :: ds, _, h, b, hb => by
    cases h with
    | cons h1 h2 =>
      rw [List.zip_cons_cons] at hb
      rcases List.mem_cons.mp hb with e | hb
      · subst e; exact h1
      · exact rps_zip h2 b hb
theorem rps_of {K : PySem.W.Frag} {H : Hp} : ∀ {l : List (V × D)}, (∀ b ∈ l, Rp K H b.1 b.2) → RpAll K H (l.map Prod.fst) (l.map Prod.snd)
  | [], _ => .nil
  | b :: l, h => .cons (h b List.mem_cons_self) (rps_of fun c hc => h c (List.mem_cons_of_mem _ hc))
theorem each_zip {R : Value → V → Prop} : ∀ {us : List Value} {vs : List V} {ds : List D}, vs.length = ds.length → Vals vs us → PySem.W.EachIs (fun (u : Value) (b : V × D) => RelV b.1 u) us (vs.zip ds)
  | _, _, [], e, h => by
    cases h with
    | nil => exact .nil
    | cons _ _ => simp at e
  | _, _, d :: ds, e, h => by
    cases h with
    | nil => simp at e
    | cons h1 h2 => exact .cons h1 (each_zip (R := R) (by simpa using e) h2)
theorem each_vals : ∀ {us : List Value} {l : List (V × D)}, PySem.W.EachIs (fun (u : Value) (b : V × D) => RelV b.1 u) us l → Vals (l.map Prod.fst) us
  | _, _, .nil => .nil
  | _, _, .cons h t => .cons h (each_vals t)
section
variable {X : Cx}
theorem cr_sortD (hu : X.A.units + 65 < cLine) : CallR X (.builtin "sorted") (fun xs H Q => ∃ x as Hi ds, xs = [x] ∧ Wo as Hi H ∧ Rp X.K Hi x (.list ds) ∧ sortOk ds ∧ QF X.K as Hi H Q (sortD ds)) := by
  intro pins s σ H xs us Q I r h
  obtain ⟨x, as, Hi, ds, rfl, w, hd, ⟨s1, s2, s3⟩, q⟩ := h
  cases hd with
  | @lst a vs ds ha hx =>
    rw [Vals.ref1 r]
    obtain ⟨its, rv, hl, hz⟩ := I.list (SqL.of (w.sub _ _ ha))
    have hlen := dps_len hx
    have e1 : PySem.W.EachIs (fun (u : Value) (b : V × D) => RelV b.1 u) its (vs.zip ds) := each_zip (R := fun _ _ => True) hlen rv
    have e2 : PySem.W.EachIs (fun (u : Value) (b : V × D) => ∃ as, PySem.Reads s.heap u b.2 as) its (vs.zip ds) := by
      have hl2 : its.length = (vs.zip ds).length := e1.length
      refine PySem.W.EachIs.of_zip hl2 fun p hp => ?_
      have hr := e1.zip p hp
      have hb : p.2 ∈ vs.zip ds := (List.of_mem_zip hp).2
      exact Dp.reads I _ _ _ (rp_dp _ _ (dp_up w.sub _ _ (rps_zip hx p.2 hb))) hr
    have em : (vs.zip ds).map Prod.snd = ds := List.map_snd_zip (by omega)
    refine PySem.W.sorted_data (enc := fun b : V × D => b.2) hl.isList e1 e2 (by rw [em]; exact s1) (by rw [em]; exact s2) ?_ (fun b hb => ?_) fun out hol hoe => ?_
    · have : (vs.zip ds).length = vs.length := by rw [List.length_zip]; omega
      omega
    · have := s3 b.2 (List.of_mem_zip hb).2
      omega
    · obtain ⟨ep, he'⟩ := PyProof.Rows.sortedAll_at s.heap its out.toArray
      have hv := each_vals hoe
      have hfr : H (s.heap.objs.size + 1) = none := I.hok.fresh (Nat.le_succ _)
      have hn := Go.newO w (o := .lst (((vs.zip ds).mergeSort (PySem.W.dataLe false fun b : V × D => b.2)).map Prod.fst)) hfr
      have sd : ((vs.zip ds).mergeSort (PySem.W.dataLe false fun b : V × D => b.2)).map Prod.snd = sortD ds := by
        unfold sortD
        exact (PySem.W.sort_maps (r := PySem.W.dataLe false fun b : V × D => b.2) (s := PySem.W.dataLe false id) Prod.snd (fun a _ b _ => rfl)).trans (by rw [em])
      have hlen2 : (((vs.zip ds).mergeSort (PySem.W.dataLe false fun b : V × D => b.2)).map Prod.fst).length ≤ sizeLine := by
        rw [List.length_map, List.length_mergeSort, List.length_zip]; omega
      refine ⟨.ref _, upd H (s.heap.objs.size + 1) (.lst _), I.laid (t' := s.toks) (fun _ _ => PyProof.Rows.sortedAll_old) (Nat.le_succ _) ⟨hlen2, out, ep, hv, ?_⟩, rfl, ?_⟩
      · simpa using he'
      · refine q _ _ _ _ hn hfr (hi_none w hfr) (fun e => ?_) upd_same ?_
        · obtain ⟨_, x, y, z, _⟩ := w.src _ e
          rw [hfr] at z
          cases z
        · rw [← sd]
          exact rps_of fun b hb => rps_zip hx b (List.mem_mergeSort.mp hb)
end
/-- a new list, frozen at once -/
theorem QF.froz {K : PySem.W.Frag} {as : Option Addr} {Hi H : Hp} {Q : VK} {ds : List D} (w : Wo as Hi H) (q : QD K as Hi H Q (.list ds)) : QF K as Hi H Q ds := by
  intro p vs H' Hi' g h1 h2 h3 h4 h5
  have w' : Wo as Hi' H' := g.wo w
  have wf := Go.freeze w' h4 h2 h3
  have e : Same Hi' (upd Hi' p (.lst vs)) := fun b o h => by rw [upd_ne (ne_of_none h h2)]; exact h
  refine q _ _ (upd Hi' p (.lst vs)) ⟨g.imm.trans e, wf.sub, g.keep, fun b hb hi => ?_, g.src⟩ (.lst upd_same (dps_up e _ _ h5))
  by_cases hbp : b = p
  · subst hbp; exact absurd h1 hb
  · rw [upd_ne hbp]; exact g.out b hb hi
end SW

namespace SW
open PySem PySem.Spec PyProof.Rows L2

def isSetF : B1 → Bool
  | .sset | .lset => true
  | _ => false
def isTyF : B1 → Bool
  | .tuple | .list | .int | .str => true
  | _ => false
def b1Name : B1 → String
  | .len => "len" | .all => "all" | .any => "any" | .sum => "sum" | .max => "max" | .min => "min" | .sorted => "sorted"
  | .sset => "sorted" | .lset => "len" | .tuple => "tuple" | .list => "list" | .int => "int" | .str => "str" | .abs => "abs"
def b1V (f : B1) : Value := if isTyF f then .type (b1Name f) else .builtin (b1Name f)
def rB1 (K : PySem.W.Frag) (f : B1) : List V → Hp → VK → Prop := fun xs H Q => ∃ x as Hi d, xs = [x] ∧ Wo as Hi H ∧ Rp K Hi x d ∧ pB1 f d (QD K as Hi H Q)
section
variable {X : Cx}
theorem callB1 (hc : X.calm = true) (hu : X.A.units + 65 < cLine) : ∀ f, isSetF f = false → CallR X (b1V f) (rB1 X.K f)
  | .len, _ => by
    intro pins s σ H xs us Q I r h
    obtain ⟨x, as, Hi, d, rfl, w, hd, p⟩ := h
    unfold pB1 at p
    cases d with
    | list ds =>
      cases hd with
      | @lst a vs ds ha hx =>
        refine call_len_seq pins s σ H _ us Q I r ⟨a, vs, rfl, .inl (SqL.of (w.sub _ _ ha)), ?_⟩
        rw [dps_len hx]
        exact QD.here w p (.int _)
    | tuple ds =>
      cases hd with
      | @tup a vs ds ha hx =>
        refine call_len_seq pins s σ H _ us Q I r ⟨a, vs, rfl, .inr (sqT_up w.sub ha), ?_⟩
        rw [dps_len hx]
        exact QD.here w p (.int _)
    | str z =>
      cases hd
      exact call_len_str pins s σ H _ us Q I r ⟨z, rfl, p.1, p.2.here w (.int _)⟩
    | _ => exact p.elim
  | .all, _ => by
    intro pins s σ H xs us Q I r h
    obtain ⟨x, as, Hi, d, rfl, w, hd, p⟩ := h
    unfold pB1 at p
    cases d with
    | list ds =>
      cases hd with
      | @lst a vs ds ha hx =>
        dsimp only at p
        split at p
        · rename_i bs hb
          refine cr_all hc pins s σ H _ us Q I r ⟨a, bs, rfl, ?_, QD.here w p (.bl _)⟩
          rw [← as_bools hx hb]
          exact SqL.of (w.sub _ _ ha)
        · exact p.elim
    | _ => exact p.elim
  | .any, _ => by
    intro pins s σ H xs us Q I r h
    obtain ⟨x, as, Hi, d, rfl, w, hd, p⟩ := h
    unfold pB1 at p
    cases d with
    | list ds =>
      cases hd with
      | @lst a vs ds ha hx =>
        dsimp only at p
        split at p
        · rename_i bs hb
          refine cr_any hc pins s σ H _ us Q I r ⟨a, bs, rfl, ?_, QD.here w p (.bl _)⟩
          rw [← as_bools hx hb]
          exact SqL.of (w.sub _ _ ha)
        · exact p.elim
    | _ => exact p.elim
  | .sum, _ => by
    intro pins s σ H xs us Q I r h
    obtain ⟨x, as, Hi, d, rfl, w, hd, p⟩ := h
    unfold pB1 at p
    cases d with
    | list ds =>
      cases hd with
      | @lst a vs ds ha hx =>
        dsimp only at p
        split at p
        · rename_i bs hb
          refine cr_sum hc pins s σ H _ us Q I r ⟨a, bs, rfl, ?_, QD.here w p (.int _)⟩
          rw [← as_ints hx hb]
          exact SqL.of (w.sub _ _ ha)
        · exact p.elim
    | _ => exact p.elim
  | .max, _ => by
    intro pins s σ H xs us Q I r h
    obtain ⟨x, as, Hi, d, rfl, w, hd, p⟩ := h
    unfold pB1 at p
    cases d with
    | list ds =>
      cases hd with
      | @lst a vs ds ha hx =>
        dsimp only at p
        split at p
        · rename_i bs hb
          obtain ⟨m1, m2⟩ := maxI_mem p.1
          refine cr_max hc pins s σ H _ us Q I r ⟨a, bs, rfl, ?_, List.length_pos_iff.mpr p.1, fun m h1 h2 => ?_⟩
          · rw [← as_ints hx hb]
            exact SqL.of (w.sub _ _ ha)
          · have e : m = maxI bs := Int.le_antisymm (m2 m h1) (h2 _ m1)
            rw [e]
            exact p.2.here w (.int _)
        · exact p.elim
    | _ => exact p.elim
  | .min, _ => by
    intro pins s σ H xs us Q I r h
    obtain ⟨x, as, Hi, d, rfl, w, hd, p⟩ := h
    unfold pB1 at p
    cases d with
    | list ds =>
      cases hd with
      | @lst a vs ds ha hx =>
        dsimp only at p
        split at p
        · rename_i bs hb
          obtain ⟨m1, m2⟩ := minI_mem p.1
          refine cr_min hc pins s σ H _ us Q I r ⟨a, bs, rfl, ?_, List.length_pos_iff.mpr p.1, fun m h1 h2 => ?_⟩
          · rw [← as_ints hx hb]
            exact SqL.of (w.sub _ _ ha)
          · have e : m = minI bs := Int.le_antisymm (h2 _ m1) (m2 m h1)
            rw [e]
            exact p.2.here w (.int _)
        · exact p.elim
    | _ => exact p.elim
  | .sorted, _ => by
    intro pins s σ H xs us Q I r h
    obtain ⟨x, as, Hi, d, rfl, w, hd, p⟩ := h
    unfold pB1 at p
    cases d with
    | list ds => exact cr_sortD hu pins s σ H _ us Q I r ⟨x, as, Hi, ds, rfl, w, hd, p.1, QF.froz w p.2⟩
    | _ => exact p.elim
  | .tuple, _ => by
    intro pins s σ H xs us Q I r h
    obtain ⟨x, as, Hi, d, rfl, w, hd, p⟩ := h
    unfold pB1 at p
    cases d with
    | list ds =>
      cases hd with
      | @lst a vs ds ha hx => exact call_tuple_of pins s σ H _ us Q I r ⟨a, vs, rfl, .inl ⟨SqL.of (w.sub _ _ ha), fun l hl => new_tup w p hx hl⟩⟩
    | tuple ds =>
      cases hd with
      | @tup a vs ds ha hx => exact call_tuple_of pins s σ H _ us Q I r ⟨a, vs, rfl, .inr ⟨sqT_up w.sub ha, QD.here w p (.tup ha hx)⟩⟩
    | _ => exact p.elim
  | .list, _ => by
    intro pins s σ H xs us Q I r h
    obtain ⟨x, as, Hi, d, rfl, w, hd, p⟩ := h
    unfold pB1 at p
    cases d with
    | list ds =>
      cases hd with
      | @lst a vs ds ha hx => exact call_list_of pins s σ H _ us Q I r ⟨a, vs, rfl, .inl (SqL.of (w.sub _ _ ha)), fun l hl => new_lst w p hx hl⟩
    | tuple ds =>
      cases hd with
      | @tup a vs ds ha hx => exact call_list_of pins s σ H _ us Q I r ⟨a, vs, rfl, .inr (sqT_up w.sub ha), fun l hl => new_lst w p hx hl⟩
    | _ => exact p.elim
  | .int, _ => by
    intro pins s σ H xs us Q I r h
    obtain ⟨x, as, Hi, d, rfl, w, hd, p⟩ := h
    unfold pB1 at p
    cases d with
    | int i =>
      cases hd
      exact call_int1 pins s σ H _ us Q I r (.inl ⟨i, rfl, QD.here w p (.int _)⟩)
    | _ => exact p.elim
  | .str, _ => by
    intro pins s σ H xs us Q I r h
    obtain ⟨x, as, Hi, d, rfl, w, hd, p⟩ := h
    unfold pB1 at p
    cases d with
    | int i =>
      cases hd
      exact call_str_int pins s σ H _ us Q I r ⟨i, rfl, p.1, p.2.here w (.str _)⟩
    | _ => exact p.elim
  | .abs, _ => by
    intro pins s σ H xs us Q I r h
    obtain ⟨x, as, Hi, d, rfl, w, hd, p⟩ := h
    unfold pB1 at p
    cases d with
    | int i =>
      cases hd
      exact call_abs pins s σ H _ us Q I r ⟨i, rfl, QD.here w p (.int _)⟩
    | _ => exact p.elim
def rB2 (K : PySem.W.Frag) (f : B2) : List V → Hp → VK → Prop := fun xs H Q => ∃ x y as Hi d e, xs = [x, y] ∧ Wo as Hi H ∧ Rp K Hi x d ∧ Rp K Hi y e ∧ pB2 f d e (QD K as Hi H Q)
def b2Name : B2 → String
  | .max => "max" | .min => "min"
theorem callB2 (hc : X.calm = true) : ∀ f, CallR X (.builtin (b2Name f)) (rB2 X.K f)
  | .max => by
    intro pins s σ H xs us Q I r h
    obtain ⟨x, y, as, Hi, d, e, rfl, w, hd, he, p⟩ := h
    cases d <;> cases e <;> first
      | exact p.elim
      | (cases hd; cases he; exact call_max2 hc pins s σ H _ us Q I r ⟨_, _, rfl, QD.here w p (.int _)⟩)
  | .min => by
    intro pins s σ H xs us Q I r h
    obtain ⟨x, y, as, Hi, d, e, rfl, w, hd, he, p⟩ := h
    cases d <;> cases e <;> first
      | exact p.elim
      | (cases hd; cases he; exact call_min2 hc pins s σ H _ us Q I r ⟨_, _, rfl, QD.here w p (.int _)⟩)
/-- isinstance -/
def tyS : D → String
  | .none => "NoneType" | .bool _ => "bool" | .int _ => "int" | .str _ => "str" | .list _ => "list" | .tuple _ => "tuple" | .dict _ => "dict"
def ty4S : Ty4 → String
  | .int => "int" | .str => "str" | .tup => "tuple" | .bool => "bool" | .list => "list"
theorem rp_ty {K : PySem.W.Frag} {Hi H : Hp} {v : V} {d : D} (e : Same Hi H) (h : Rp K Hi v d) : TyX K H v (.type (tyS d)) := by
  cases h with
  | non => exact .base .non
  | bl b => exact .base (.bl b)
  | int i => exact .base (.int i)
  | str x => exact .base (.str x)
  | lst ha hx => exact .base (.lst (e _ _ ha))
  | tup ha hx =>
    rcases ha with (ha | ⟨o, ha⟩) | ⟨o, its, n, hk, hc, _⟩
    · exact .base (.tup (e _ _ ha))
    · exact .fTuple (e _ _ ha)
    · exact .kTuple hk hc
theorem kit4 (d : D) (t : Ty4) (hd : ∀ kv, d ≠ .dict kv) : kitB (tyS d) (ty4S t) = some (pIsi d t) := by
  cases d with
  | dict kv => exact absurd rfl (hd kv)
  | none => cases t <;> first | exact (show kitB "NoneType" _ = some true by decide +kernel) | exact (show kitB "NoneType" _ = some false by decide +kernel)
  | bool _ => cases t <;> first | exact (show kitB "bool" _ = some true by decide +kernel) | exact (show kitB "bool" _ = some false by decide +kernel)
  | int _ => cases t <;> first | exact (show kitB "int" _ = some true by decide +kernel) | exact (show kitB "int" _ = some false by decide +kernel)
  | str _ => cases t <;> first | exact (show kitB "str" _ = some true by decide +kernel) | exact (show kitB "str" _ = some false by decide +kernel)
  | list _ => cases t <;> first | exact (show kitB "list" _ = some true by decide +kernel) | exact (show kitB "list" _ = some false by decide +kernel)
  | tuple _ => cases t <;> first | exact (show kitB "tuple" _ = some true by decide +kernel) | exact (show kitB "tuple" _ = some false by decide +kernel)
end
end SW

namespace SW
open PySem PySem.Spec PyProof.Rows L2

/-! ### the look: does the IR say what the text says? -/
structure Cfg0 where
  Γ : Nat → Option Fn
  C : Con
  fs : List Nat
  cs : List Nat
  cn : Nat → Str
  lm : Bool := false
structure Cfg extends Cfg0 where
  n : Nat
instance : Coe Cfg Cfg0 := ⟨Cfg.toCfg0⟩
abbrev Cfg.Φ (c : Cfg) : Phi := wpCall c.Γ c.C c.n
def visB (sc : Scope) (x : Str) : Bool := match sc.names.lookup x with
  | some .local => true | some .cell => true | some .free => true | _ => false
def locB (sc : Scope) (x : Str) : Bool := match sc.names.lookup x with
  | some .local => true | some .cell => true | _ => false
def glB (sc : Scope) (x : Str) : Bool := match sc.names.lookup x with
  | some .globalImplicit => true | _ => false
def okNm (x : Str) : Bool := !(x == ("__debug__" : Str)) && !(x == ("__classdict__" : Str))
def noStar : Expr → Bool
  | .Starred .. => false
  | _ => true
def noSet : Expr → Bool
  | .Set .. => false
  | _ => true
def noSlice : Expr → Bool
  | .Slice .. => false
  | _ => true
def noComp : Expr → Bool
  | .ListComp .. | .SetComp .. | .DictComp .. => false
  | _ => true
def isNm (sc : Scope) (N : List Str) (i : Nat) : Expr → Bool
  | .Name x _ => decide (N[i]? = some x) && visB sc x && okNm x
  | _ => false
def isGl (sc : Scope) (x : Str) : Expr → Bool
  | .Name y _ => y == x && glB sc x && okNm x
  | _ => false
/-- f(a), f a global name -/
def unC1 (sc : Scope) (x : Str) : Expr → Option Expr
  | .Call f [a] [] _ => if isGl sc x f && noStar a then some a else none
  | _ => none
def unC2 (sc : Scope) (x : Str) : Expr → Option (Expr × Expr)
  | .Call f [a, b] [] _ => if isGl sc x f && noStar a && noStar b then some (a, b) else none
  | _ => none
def unC3 (sc : Scope) (x : Str) : Expr → Option (Expr × Expr × Expr)
  | .Call f [a, b, d] [] _ => if isGl sc x f && noStar a && noStar b && noStar d then some (a, b, d) else none
  | _ => none
def isM1 : Expr → Bool
  | .UnaryOp .USub (.Constant (.int 1) _ _) _ => true
  | _ => false
mutual
def chkT (sc : Scope) (N : List Str) : Tg → Expr → Bool
  | .nm i, e => match e with
    | .Name x _ => decide (N[i]? = some x) && locB sc x && okNm x
    | _ => false
  | .tp l, e => match e with
    | .Tuple es _ _ => chkTs sc N l es
    | _ => false
def chkTs (sc : Scope) (N : List Str) : Tgs → List Expr → Bool
  | .nil, es => match es with | [] => true | _ => false
  | .cons t l, es => match es with
    | e :: r => noStar e && chkT sc N t e && chkTs sc N l r
    | [] => false
end
mutual
def tgIx : Tg → List Nat
  | .nm i => [i]
  | .tp l => tgsIx l
def tgsIx : Tgs → List Nat
  | .nil => []
  | .cons t l => tgIx t ++ tgsIx l
end
def isTp : Tg → Bool
  | .tp _ => true
  | _ => false
section
variable (c : Cfg0) (N : List Str)
mutual
def chkE : Scope → Ex → Expr → Bool
  | sc, .var i, e => isNm sc N i e
  | sc, .glob k, e => c.cs.contains k && isGl sc (c.cn k) e
  | _, .int i, e => match e with | .Constant (.int j) _ _ => decide (i = j) | _ => false
  | _, .str i, e => match e with | .Constant (.str j) _ _ => decide (i = j) | _ => false
  | _, .bl i, e => match e with | .Constant (.bool j) _ _ => decide (i = j) | _ => false
  | _, .non, e => match e with | .Constant .none _ _ => true | _ => false
  | sc, .tup es, e => match e with | .Tuple l _ _ => decide (l.length ≤ 1000) && chkEs sc es l | _ => false
  | sc, .lst es, e => match e with | .List l _ => decide (l.length ≤ 1000) && chkEs sc es l | _ => false
  | sc, .bin op a b, e => match e with | .BinOp ea o eb _ => decide (op = o) && chkE sc a ea && chkE sc b eb | _ => false
  | sc, .neg a, e => match e with | .UnaryOp .USub ea _ => chkE sc a ea | _ => false
  | sc, .not a, e => match e with | .UnaryOp .Not ea _ => chkE sc a ea | _ => false
  | sc, .cmp op a b, e => match e with | .Compare ea [o] [eb] _ => decide (op = o) && noSet eb && chkE sc a ea && chkE sc b eb | _ => false
  | sc, .chain op op2 a b d, e => match e with
    | .Compare ea [o, o2] [eb, ed] _ => decide (op = o) && decide (op2 = o2) && noSet ed && chkE sc a ea && chkE sc b eb && chkE sc d ed
    | _ => false
  | sc, .bop op es, e => match e with | .BoolOp o l _ => decide (op = o) && chkBs sc es l | _ => false
  | sc, .ite d a b, e => match e with | .IfExp ed ea eb _ => chkE sc d ed && chkE sc a ea && chkE sc b eb | _ => false
  | sc, .isi a t, e => match unC2 sc "isinstance" e with
    | some (ea, et) => isGl sc (ty4S t) et && chkE sc a ea
    | none => false
  | sc, .b1 f a, e => match isSetF f with
    | true => decide (f = .lset) && match unC1 sc "len" e with
      | some e2 => match unC1 sc "set" e2 with
        | some ea => chkE sc a ea
        | none => false
      | none => false
    | false => match unC1 sc (b1Name f) e with
      | some ea => chkE sc a ea
      | none => false
  | sc, .b2 f a b, e => match unC2 sc (b2Name f) e with
    | some (ea, eb) => chkE sc a ea && chkE sc b eb
    | none => false
  | sc, .lrng it, e => match unC1 sc "list" e with
    | some e2 => match it with
      | .rng1 a => match unC1 sc "range" e2 with
        | some ea => chkE sc a ea
        | none => false
      | .rng2 a b => match unC2 sc "range" e2 with
        | some (ea, eb) => chkE sc a ea && chkE sc b eb
        | none => false
      | _ => false
    | none => false
  | sc, .slen i, e => match unC1 sc "len" e with
    | some ea => isNm sc N i ea
    | none => false
  | sc, .call f es, e => match e with
    | .Call g l [] _ => c.fs.contains f && (match c.Γ f with | some F => isGl sc F.name g && decide (F.np = l.length) | none => false) && chkEs sc es l
    | _ => false
  | sc, .calls f i es, e => match e with
    | .Call g (s :: l) [] _ => c.fs.contains f && (match c.Γ f with | some F => isGl sc F.name g && decide (F.np = l.length + 1) | none => false) && isNm sc N i s && chkEs sc es l
    | _ => false
  | sc, .ix a b, e => match e with | .Subscript ea eb _ => noSlice eb && chkE sc a ea && chkE sc b eb | _ => false
  | sc, .slT a b, e => match e with | .Subscript ea (.Slice none (some eb) none _) _ => chkE sc a ea && chkE sc b eb | _ => false
  | sc, .slF a b, e => match e with | .Subscript ea (.Slice (some eb) none none _) _ => chkE sc a ea && chkE sc b eb | _ => false
  | sc, .slB a b d, e => match e with | .Subscript ea (.Slice (some eb) (some ed) none _) _ => chkE sc a ea && chkE sc b eb && chkE sc d ed | _ => false
  | sc, .slR a, e => match e with | .Subscript ea (.Slice none none (some m) _) _ => isM1 m && chkE sc a ea | _ => false
  | _, .sl2 a, _ => false
  | sc, .comp elt tg it cond own, e => match e with
    | .ListComp el [⟨et, ei, ifs, 0⟩] scope _ => blkC N sc scope own && chkT scope N tg et && decide (∀ i ∈ tgIx tg, i ∈ own.map (·.2)) && noSet ei && chkIt sc it (isTp tg) ei && chkCs (relS scope sc) cond ifs && chkE (relS scope sc) elt el
    | _ => false
  | _, .mt _ _ _, _ => false
def chkEs : Scope → Exs → List Expr → Bool
  | _, .nil, l => match l with | [] => true | _ => false
  | sc, .cons x xs, l => match l with
    | e :: r => noStar e && chkE sc x e && chkEs sc xs r
    | [] => false
def chkBs : Scope → Exs → List Expr → Bool
  | _, .nil, l => false
  | sc, .cons x xs, l => match l with
    | e :: r => chkE sc x e && (match xs, r with
      | .nil, [] => true
      | .cons y ys, _ :: _ => chkBs sc (.cons y ys) r
      | _, _ => false)
    | [] => false
def chkCs : Scope → Exs → List Expr → Bool
  | _, .nil, l => match l with | [] => true | _ => false
  | sc, .cons x xs, l => match xs, l with
    | .nil, [e] => chkE sc x e
    | _, _ => false
def chkIt : Scope → It → Bool → Expr → Bool
  | sc, .seq x, _, e => chkE sc x e
  | sc, .rng1 a, _, e => match unC1 sc "range" e with
    | some ea => chkE sc a ea
    | none => false
  | sc, .rng2 a b, _, e => match unC2 sc "range" e with
    | some (ea, eb) => chkE sc a ea && chkE sc b eb
    | none => false
  | sc, .rng3 a b d, _, e => match unC3 sc "range" e with
    | some (ea, eb, ed) => chkE sc a ea && chkE sc b eb && chkE sc d ed
    | none => false
  | sc, .enum a, tp, e => match unC1 sc "enumerate" e with
    | some ea => tp && chkE sc a ea
    | none => false
  | sc, .zip a b, tp, e => match unC2 sc "zip" e with
    | some (ea, eb) => tp && chkE sc a ea && chkE sc b eb
    | none => false
end
end
end SW

namespace SW
open PySem PySem.Spec PyProof.Rows L2

/-! ### what a def promises -/
def ArgR (K : PySem.W.Frag) (as : Option Addr) (Hi : Hp) : V → S → Prop
  | v, .val d => Rp K Hi v d
  | v, .src => ∃ a, as = some a ∧ v = .ref a
  | v, .scr ns => ∃ a, v = .ref a ∧ SqL K Hi a (ns.map V.int)
  | _, _ => False
def QR (K : PySem.W.Frag) (as : Option Addr) (Hi H : Hp) (Q : VK) : S → Prop
  | .val d => QD K as Hi H Q d
  | .own ds => QF K as Hi H Q ds
  | _ => True
def spF (K : PySem.W.Frag) (Φ : Phi) (f np : Nat) : Sp := fun vs H Q _ => vs.length = np ∧ ∃ as Hi args, Wo as Hi H ∧ Paired (ArgR K as Hi) vs args ∧ Φ f args (QR K as Hi H Q)

def bltNames : List Str := ["len", "all", "any", "sum", "max", "min", "sorted", "set", "tuple", "list", "int", "str", "abs", "range", "enumerate", "zip", "isinstance", "bool"]
def spSrc (K : PySem.W.Frag) : Sp := fun vs H Q _ => ∃ (a : Addr) (ns : List Int) (k : Int), vs = [.ref a, .int k] ∧ SqL K H a (ns.map V.int) ∧ (0 ≤ k ∧ k ≤ 1048576) ∧ ∀ p x y, SrcOk x y → H p = none → Q (.ref p) (upd H p (.lst [.int x, .int y]))
structure GX (c : Cfg) (N : List Str) (X : Cx) : Prop where
  N : X.N = N
  nd : X.N.Nodup
  calm : X.calm = true
  room : Room c.n X.A
  blt : ∀ x ∈ bltNames, X.mg x = none
  fns : ∀ f ∈ c.fs, ∀ F, c.Γ f = some F → C8.Cal X.prog X.w X.K X.mg X.base c.n F.name (spF X.K c.Φ f F.np) []
  src : c.lm = true → C8.Cal X.prog X.w X.K X.mg X.base c.n "_law_source" (spSrc X.K) []
  con : ∀ k ∈ c.cs, ∃ d u v, c.C k = some d ∧ X.mg (c.cn k) = some u ∧ RelV v u ∧ ∀ Hi, Rp X.K Hi v d

/-! ### the text's small forms -/
theorem isNm_of {sc : Scope} {N : List Str} {i : Nat} {e : Expr} (h : isNm sc N i e = true) : ∃ x p, e = .Name x p ∧ N[i]? = some x ∧ visB sc x = true ∧ okNm x = true := by
  cases e <;> first | exact absurd h Bool.false_ne_true | skip
  case Name x p =>
    simp only [isNm, Bool.and_eq_true, decide_eq_true_eq] at h
    exact ⟨x, p, rfl, h.1.1, h.1.2, h.2⟩
theorem isGl_of {sc : Scope} {x : Str} {e : Expr} (h : isGl sc x e = true) : ∃ p, e = .Name x p ∧ glB sc x = true ∧ okNm x = true := by
  cases e <;> first | exact absurd h Bool.false_ne_true | skip
  case Name y p =>
    simp only [isGl, Bool.and_eq_true, beq_iff_eq] at h
    obtain ⟨⟨h1, h2⟩, h3⟩ := h
    subst h1
    exact ⟨p, rfl, h2, h3⟩
theorem okNm_of {x : Str} (h : okNm x = true) : (x == ("__debug__" : Str)) = false ∧ (x == ("__classdict__" : Str)) = false := by
  simp only [okNm, Bool.and_eq_true, Bool.not_eq_true'] at h
  exact h
theorem visB_of {sc : Scope} {x : Str} (h : visB sc x = true) : Vis sc x := by
  unfold visB at h
  split at h
  · rename_i q; exact .inl q
  · rename_i q; exact .inr (.inl q)
  · rename_i q; exact .inr (.inr q)
  · cases h
theorem locB_of {sc : Scope} {x : Str} (h : locB sc x = true) : Loc sc x := by
  unfold locB at h
  split at h
  · rename_i q; exact .inl q
  · rename_i q; exact .inr q
  · cases h
theorem glB_of {sc : Scope} {x : Str} (h : glB sc x = true) : sc.names.lookup x = some .globalImplicit := by
  unfold glB at h
  split at h
  · assumption
  · cases h
theorem star_cons {e : Expr} {es : List Expr} {env : Env} (h : noStar e = true) : starEach (e :: es) env = (false, eval e env) :: starEach es env := by
  cases e <;> first | rfl | exact absurd h Bool.false_ne_true
theorem asg_cons {e : Expr} {es : List Expr} {env : Env} (h : noStar e = true) : assignEach (e :: es) env = (false, assign e env) :: assignEach es env := by
  cases e <;> first | rfl | exact absurd h Bool.false_ne_true
theorem back_any {pos : Pos} {env : Env} : ∀ {es : List Expr}, (∀ e ∈ es, noStar e = true) → (backTo pos (starEach es env)).any (·.1) = false
  | [], _ => rfl
  | e :: es, h => by
    rw [star_cons (h e List.mem_cons_self)]
    show (false || (backTo pos (starEach es env)).any (·.1)) = false
    rw [back_any fun x hx => h x (List.mem_cons_of_mem _ hx)]
    rfl
theorem noSet_marks {op : CmpOp} {e : Expr} (h : noSet e = true) : behindInMarks op e = false := by
  cases e <;> first | rfl | exact absurd h Bool.false_ne_true
theorem noSet_marks2 {op op2 : CmpOp} {a e : Expr} (h : noSet e = true) : lastMarks [op, op2] [a, e] = false := by
  show behindInMarks op2 e = false
  exact noSet_marks h
theorem noSet_fold {e : Expr} {env : Env} (h : noSet e = true) : ∀ x, foldedSetIterable e env x = pure x := by
  cases e <;> first | (intro x; rfl) | exact absurd h Bool.false_ne_true
theorem noSlice_ix {e : Expr} (h : noSlice e = true) : PlainIx e := by
  cases e <;> first | exact absurd h Bool.false_ne_true | (intro o i; rfl)
theorem noComp_sw {e : Expr} {t : Option Expr} {l : Nat} {env : Env} (h : noComp e = true) : swapsWith e t l env = pure false := by
  cases e <;> first | exact absurd h Bool.false_ne_true | rfl
theorem unC1_of {sc : Scope} {x : Str} {e a : Expr} (h : unC1 sc x e = some a) : ∃ p pos, e = .Call (.Name x p) [a] [] pos ∧ glB sc x = true ∧ okNm x = true ∧ noStar a = true := by
  unfold unC1 at h
  split at h
  · rename_i f b pos
    split at h
    · rename_i q
      cases h
      simp only [Bool.and_eq_true] at q
      obtain ⟨p, rfl, h2, h3⟩ := isGl_of q.1
      exact ⟨p, pos, rfl, h2, h3, q.2⟩
    · cases h
  · cases h
theorem unC2_of {sc : Scope} {x : Str} {e a b : Expr} (h : unC2 sc x e = some (a, b)) : ∃ p pos, e = .Call (.Name x p) [a, b] [] pos ∧ glB sc x = true ∧ okNm x = true ∧ noStar a = true ∧ noStar b = true := by
  unfold unC2 at h
  split at h
  · split at h
    · rename_i f a' b' pos q
      cases h
      simp only [Bool.and_eq_true] at q
      obtain ⟨p, rfl, h2, h3⟩ := isGl_of q.1.1
      exact ⟨p, pos, rfl, h2, h3, q.1.2, q.2⟩
    · cases h
  · cases h
theorem unC3_of {sc : Scope} {x : Str} {e a b d : Expr} (h : unC3 sc x e = some (a, b, d)) : ∃ p pos, e = .Call (.Name x p) [a, b, d] [] pos ∧ glB sc x = true ∧ okNm x = true ∧ noStar a = true ∧ noStar b = true ∧ noStar d = true := by
  unfold unC3 at h
  split at h
  · split at h
    · rename_i f a' b' d' pos q
      cases h
      simp only [Bool.and_eq_true] at q
      obtain ⟨p, rfl, h2, h3⟩ := isGl_of q.1.1.1
      exact ⟨p, pos, rfl, h2, h3, q.1.1.2, q.1.2, q.2⟩
    · cases h
  · cases h
/-- an expression that is no and, or, not, if, comparison: its truth is its value's -/
def plainT : Expr → Bool
  | .UnaryOp .Not _ _ | .BoolOp .. | .IfExp .. | .Compare .. => false
  | _ => true
theorem pt_of {X : Cx} {e : Expr} {t : TE} (h : PE X e t) (hp : plainT e = true) : PT X e (tTest t) := by
  refine pt_val h ?_
  cases e <;> first | (intro w; rfl) | exact absurd hp Bool.false_ne_true | skip
  case UnaryOp op a p => cases op <;> first | (intro w; rfl) | exact absurd hp Bool.false_ne_true

section
variable {X : Cx} {K : PySem.W.Frag} {Φ : Phi} {C : Con} (hΦ : PhiMono Φ)
abbrev Both (X : Cx) (Φ : Phi) (C : Con) (x : Ex) (e : Expr) : Prop := PE X e (tE X.K Φ C x) ∧ PT X e (tT X.K Φ C x)
theorem both_of {x : Ex} {e : Expr} (h : PE X e (tE X.K Φ C x)) (hp : plainT e = true) : Both X Φ C x e := ⟨h, pt_of h hp⟩
include hΦ
theorem t_two {x y : Ex} {f : D → D → (D → Prop) → Prop} (fm : ∀ a b (Q Q' : D → Prop), (∀ d, Q d → Q' d) → f a b Q → f a b Q') {σ : St} {H : Hp} {Q : VK} {as : Option Addr} {Hi : Hp} {ρ : List S}
    (ok : XOk K as Hi H σ ρ) (w : wpE Φ C x ρ fun d => wpE Φ C y ρ fun e => f d e (QD K as Hi H Q)) : tOp (vB K f) (tE K Φ C x) (tE K Φ C y) σ H Q := by
  refine ⟨as, Hi, ρ, ok, wpE_mono hΦ x ρ (fun d q v H1 Hi1 g1 hd => ?_) w⟩
  refine ⟨as, Hi1, ρ, ok.go g1, wpE_mono hΦ y ρ (fun e q2 v2 H2 Hi2 g2 he => ?_) q⟩
  have w1 := g1.wo ok.toWo
  exact ⟨as, Hi2, d, e, g2.wo w1, dp_up g2.imm _ _ hd, he, fm _ _ _ _ (fun r q3 => q3.go ok.toWo (g1.trans ok.toWo g2)) q2⟩
theorem r_bin {op : Operator} {x y : Ex} {a b : Expr} {pos : Pos} (ha : Both X Φ C x a) (hb : Both X Φ C y b) : Both X Φ C (.bin op x y) (.BinOp a op b pos) :=
  both_of (peI (pe_op (opBin op) ha.1 hb.1) fun σ H Q ⟨as, Hi, ρ, ok, w⟩ => t_two (f := pBin op) (x := x) (y := y) hΦ (fun _ _ _ _ m q => pBin_mono m q) ok w) rfl
theorem r_neg {x : Ex} {a : Expr} {pos : Pos} (ha : Both X Φ C x a) : Both X Φ C (.neg x) (.UnaryOp .USub a pos) := by
  refine both_of (peI (pe_un un_neg ha.1) fun σ H Q ⟨as, Hi, ρ, ok, w⟩ => ⟨as, Hi, ρ, ok, wpE_mono hΦ x ρ (fun d q v H1 Hi1 g1 hd => ?_) w⟩) rfl
  cases d <;> first | exact q.elim | skip
  cases hd
  exact ⟨_, rfl, q _ _ _ g1 (.int _)⟩
theorem r_not {x : Ex} {a : Expr} {pos : Pos} (ha : Both X Φ C x a) : Both X Φ C (.not x) (.UnaryOp .Not a pos) := by
  refine ⟨peI (pe_not ha.1) fun σ H Q ⟨as, Hi, ρ, ok, w⟩ => ⟨as, Hi, ρ, ok, wpE_mono hΦ x ρ (fun d q v H1 Hi1 g1 hd => ?_) w⟩,
    ptI (pt_not ha.2) fun σ H Q ⟨as, Hi, ρ, ok, w⟩ => ⟨as, Hi, ρ, ok, wpE_mono hΦ x ρ (fun d q v H1 Hi1 g1 hd => ?_) w⟩⟩
  · cases d <;> first | exact q.elim | skip
    cases hd
    exact ⟨_, rfl, q _ _ _ g1 (.bl _)⟩
  · cases d <;> first | exact q.elim | skip
    cases hd
    obtain ⟨k, e, q⟩ := q _ _ _ g1 (.bl _)
    cases e
    exact ⟨_, rfl, q⟩
theorem r_cmp {op : CmpOp} {x y : Ex} {a b : Expr} {pos : Pos} (hu : X.A.units + 65 < cLine) (ha : Both X Φ C x a) (hb : Both X Φ C y b) (hs : noSet b = true) : Both X Φ C (.cmp op x y) (.Compare a [op] [b] pos) :=
  ⟨peI (pe_cmpR (opCmp hu op) ha.1 hb.1 (noSet_marks hs)) fun σ H Q ⟨as, Hi, ρ, ok, w⟩ => t_two (f := pCmp op) (x := x) (y := y) hΦ (fun _ _ _ _ m q => pCmp_mono m q) ok w,
    ptI (pt_cmpR (opCmp hu op) ha.1 hb.1 (noSet_marks hs)) fun σ H Q ⟨as, Hi, ρ, ok, w⟩ => t_two (f := pCmp op) (x := x) (y := y) (Q := fun v H1 => ∃ k, v = .bl k ∧ Q k H1) hΦ (fun _ _ _ _ m q => pCmp_mono m q) ok w⟩
theorem t_chain {op op2 : CmpOp} {x y z : Ex} {σ : St} {H : Hp} {Q : VK} {as : Option Addr} {Hi : Hp} {ρ : List S} (ok : XOk K as Hi H σ ρ) (w : wpE Φ C (.chain op op2 x y z) ρ (QD K as Hi H Q)) :
    tChain (vB K (pCmp op)) (vB K (pCmp op2)) (tE K Φ C x) (tE K Φ C y) (tE K Φ C z) σ H Q := by
  refine ⟨as, Hi, ρ, ok, wpE_mono hΦ x ρ (fun d q v H1 Hi1 g1 hd => ?_) w⟩
  refine ⟨as, Hi1, ρ, ok.go g1, wpE_mono hΦ y ρ (fun e q2 v2 H2 Hi2 g2 he => ?_) q⟩
  have w1 := g1.wo ok.toWo
  have w2 := g2.wo w1
  have g12 := g1.trans ok.toWo g2
  refine ⟨as, Hi2, d, e, w2, dp_up g2.imm _ _ hd, he, pCmp_mono (fun r q3 v3 H3 Hi3 g3 hr => ?_) q2⟩
  cases r <;> first | exact q3.elim | skip
  cases hr
  refine ⟨_, rfl, ?_⟩
  have g13 := g12.trans ok.toWo g3
  split
  · rename_i b e
    subst e
    refine ⟨as, Hi3, ρ, ok.go g13, wpE_mono hΦ z ρ (fun f q4 v4 H4 Hi4 g4 hf => ?_) q3⟩
    have w4 := g4.wo (g13.wo ok.toWo)
    have g14 := g13.trans ok.toWo g4
    exact ⟨as, Hi4, e, f, w4, dp_up (g3.imm.trans g4.imm) _ _ he, hf, pCmp_mono (fun r q5 => q5.go ok.toWo g14) q4⟩
  · rename_i b e
    have e' : b = false := by simpa using e
    subst e'
    exact q3 _ _ _ g13 (.bl _)
end
end SW

namespace SW
open PySem PySem.Spec PyProof.Rows L2

/-! ### what is walked: a list, a tuple, a text -/
def iAny (K : PySem.W.Frag) (tl : TE) : TI := fun σ H R => tl σ H fun x H1 => (∃ a xs, x = .ref a ∧ SqL K H1 a xs ∧ (xs.length ≤ sizeLine → R (Itl K a) H1)) ∨ (∃ a xs, x = .ref a ∧ SqT K H1 a xs ∧ (xs.length ≤ sizeLine → R (Itt K a) H1)) ∨ ∃ z, x = .str z ∧ R (Its z) H1
theorem one_it {X : Cx} {pins : List (Addr × Obj)} {σ : St} {H : Hp} {s : Shared} {tg : Expr} {R : L2.It → Hp → Prop} {o : Obj} {J : L2.It} {tn : Nat → Heap → Prop} (I : Inv X pins σ H s)
    (T : Turn X.prog X.w X.K tg J [s.heap.objs.size] s.heap.objs.size tn) (h0 : tn 0 (s.heap.push o)) (q : R J H) : PIE X pins σ tg R (.ref s.heap.objs.size) { s with heap := s.heap.push o } := by
  refine ⟨_, _, _, J, H, rfl, Inv.kept (t' := s.toks) I (fun b u e => Heap.get?_push_of_some _ e), T, h0, fun b hb => ?_, q⟩
  have e : b = s.heap.objs.size := List.mem_singleton.mp hb
  rw [e]
  exact I.fpOk (Nat.le_refl _) (I.hok.fresh (Nat.le_refl _))
theorem pi_any {X : Cx} {tg e : Expr} {tl : TE} (h : PE X e tl) : PI X tg e (iAny X.K tl) := by
  refine ⟨fun pins s σ H R I hw => thn (h.run pins s σ H _ I hw) fun v s1 ⟨x, H1, I1, r1, q1⟩ => ?_⟩
  rcases q1 with ⟨a, xs, rfl, hq, q⟩ | ⟨a, xs, rfl, hq, q⟩ | ⟨z, rfl, q⟩
  · cases r1
    obtain ⟨its, rv, p, hz⟩ := I1.list hq
    exact wpAny_pyIter_list p.isList (one_it I1 (turn_list a _) ⟨_, Heap.get?_push_size _ rfl, rfl, rfl⟩ (q hz))
  · cases r1
    obtain ⟨its, rv, p, hz⟩ := I1.tuple hq
    exact wpAny_pyIter_tuple (show s1.heap.IsTuple a its.toArray from p) (one_it I1 (turn_tuple a _) ⟨_, Heap.get?_push_size _ rfl, rfl, rfl⟩ (q hz))
  · obtain ⟨t, rfl⟩ := r1
    cases ha : z.cps.all (· < 128) with
    | false => exact wpAny_pyIter_wide ha (one_it I1 (turn_str _ z t "str_iterator" (.inr rfl)) ⟨_, Heap.get?_push_size _ rfl, rfl, rfl⟩ q)
    | true => exact wpAny_pyIter_ascii ha (one_it I1 (turn_str _ z t "str_ascii_iterator" (.inl rfl)) ⟨_, Heap.get?_push_size _ rfl, rfl, rfl⟩ q)

/-! ### enumerate(tuple) -/
set_option maxHeartbeats 1000000 in
theorem enum_newB {v : Value} {o : Obj} {G : Heap → Prop} (B : Begins v o G) :
    Meets (Builtin.«enumerate.__new__» ⟨[.type "enumerate", v], []⟩) (fun _ R s => G s.heap ∧ R (.ok (.ret (.ref (s.heap.push o).objs.size)))
      { s with heap := (s.heap.push o).push { cls := .type "enumerate", data := .fields #[.none, .bool false, .ref s.heap.objs.size, rawInt 0, .none, .none] } }) := by
  refine .of_wp fun prog w A R s h => ?_
  obtain ⟨hp, g, d, tk, os⟩ := s
  obtain ⟨h1, h⟩ := h
  have hsub := sub_enumerate
  have go : ∀ {A' : Around} {E : Value → Shared → Prop} {Q : Value → Shared → Prop}, Q (.ref hp.objs.size) ⟨hp.push o, g, d, tk, os⟩ → wpAny (model prog w) A' (pyIter v) Q E ⟨hp, g, d, tk, os⟩ := fun q => B.iter prog w _ _ _ _ h1 q
  wp_walk using go
  refine wpAny_stack_any fun st => wpAny_pure ?_
  split
  · rename_i cl _ _ _ _ _
    cases (cl == Value.type "enumerate") <;> (wp_walk using go; exact ⟨_, rfl, h⟩)
  · wp_walk using go
    exact ⟨_, rfl, h⟩
theorem call_enumB {prog : Program} {w : World} {A : Around} {E : Value → Shared → Prop} {s : Shared} {v : Value} {o : Obj} {G : Heap → Prop} {Q : Value → Shared → Prop} (B : Begins v o G) (h1 : G s.heap)
    (h : ∀ h', IsEnum h' (s.heap.objs.size + 1) s.heap.objs.size 0 .none → h'.get? s.heap.objs.size = some o → (∀ b o, s.heap.get? b = some o → h'.get? b = some o) → Q (.ref (s.heap.objs.size + 1)) { s with heap := h' }) :
    wpAny (model prog w) A (call (.type "enumerate") [v]) Q E s := by
  refine callType_new PySem.F.called_enumerate (by decide) (PySem.F.typeCall_enumerate_1 _) (PySem.F.newCall_enumerate_1 _) (fun obj => PySem.F.args_object_init_2 obj _) PySem.F.entry_enumerate_new (enum_newB B) ⟨h1, ?_⟩
  have hz : (s.heap.push o).objs.size = s.heap.objs.size + 1 := Heap.size_push ..
  show _ ∧ _
  rw [hz]
  have he : IsEnum ((s.heap.push o).push { cls := .type "enumerate", data := .fields #[.none, .bool false, .ref s.heap.objs.size, rawInt 0, .none, .none] }) (s.heap.objs.size + 1) s.heap.objs.size 0 .none := by
    have q := Heap.get?_push_size (s.heap.push o) (o := { cls := .type "enumerate", data := .fields #[.none, .bool false, .ref s.heap.objs.size, rawInt 0, .none, .none] }) rfl
    rwa [hz] at q
  exact ⟨⟨_, he, rfl⟩, h _ he (Heap.get?_push_of_some _ (Heap.get?_push_size _ B.free)) fun b ob x => Heap.get?_push_of_some _ (Heap.get?_push_of_some _ x)⟩
/-- the tuple at a, each item in a new pair -/
def IteT (K : PySem.W.Frag) (a : Addr) : L2.It :=
  ⟨fun i H => ∃ (xs : List V) (x : V), SqT K H a xs ∧ xs[i]? = some x, fun i H v H' => ∃ T x, v = .ref T ∧ H T = none ∧ H' = upd H T (.tup [.int (i : Nat), x]) ∧ ∀ xs, SqT K H a xs → xs[i]? = some x, fun i H => ∃ xs : List V, SqT K H a xs ∧ xs.length = i⟩
theorem turn_enumT {P : Program} {w : World} {K : PySem.W.Frag} {elts : List Expr} {kk : Nat} {tpos : Pos} (a e it : Addr) (hai : a ≠ it) (hae : a ≠ e) (hne : e ≠ it) :
    Turn P w K (.Tuple elts kk tpos) (IteT K a) [e, it] e (fun i h => (∃ old, IsEnum h e it ((i : Nat) : Int) old) ∧ h.IsTupleIter it a i) where
  mem := by simp
  obj := by
    rintro i h ⟨⟨old, he⟩, o, ho, hc, hd⟩ b hb
    rcases (by simpa using hb : b = e ∨ b = it) with rfl | rfl
    · exact ⟨_, he, fun v q => nomatch q⟩
    · exact ⟨o, ho, fun v q => by rw [hd] at q; cases q⟩
  keep := fun i h h' ⟨⟨old, he⟩, hi⟩ k => ⟨⟨old, k e (by simp) _ he⟩, hi.at fun o q => k it (by simp) o q⟩
  item := by
    intro X hP hw hK hc i pins s σ H E I hf st hg
    subst hP hw hK
    obtain ⟨⟨old, he⟩, hit⟩ := st
    obtain ⟨xs, x, hq, hx⟩ := hg
    obtain ⟨its, rv, p, hz⟩ := I.tuple hq
    obtain ⟨u, hu, ru⟩ := rv.get hx
    have hel : e < s.heap.objs.size := Heap.lt_size he
    have hil : it < s.heap.objs.size := by obtain ⟨_, q, _⟩ := hit; exact Heap.lt_size q
    have hlt : i < its.toArray.size := by rw [List.size_toArray]; exact (List.getElem?_eq_some_iff.mp hu).1
    refine wpAny_pyNext_enum_itemD (Draws.tuple (prog := X.prog) (w := X.w) (A := X.A.in1) (I.ok.hd hc) it a hai its.toArray) he ⟨hit, p⟩ hlt hne (by simp [hne, Ne.symm hae]) fun y h' tk hy ho hit' hT hsz hk => ?_
    have ey : y = u := by
      have : some y = some u := by rw [← hy]; simpa using hu
      exact Option.some.inj this
    subst ey
    refine ⟨_, rfl, wpAny_letOwnedTupleGo_enum (s := { s with heap := h', toks := tk + 1 }) ho fun h2 he' sb => ?_⟩
    have hT2 : h2.get? s.heap.objs.size = some { cls := .type "tuple", data := .seq #[.int i tk, y] } := (sb.2 _ (Nat.ne_of_gt hel)).trans hT
    have new : ObjOk X.prog X.w (upd H s.heap.objs.size (.tup [.int (i : Nat), x])) h2 s.heap.objs.size (.tup [.int (i : Nat), x]) := ⟨by show 2 ≤ sizeLine; decide, [.int i tk, y], .cons ⟨_, rfl⟩ (.cons ru .nil), ⟨_, hT2, rfl, _, rfl⟩⟩
    have kk : ∀ b ob, b ∉ [e, it] → s.heap.get? b = some ob → h2.get? b = some ob := fun b ob hb q => by
      have b1 : b ≠ e := fun z => hb (by simp [z])
      have b2 : b ≠ it := fun z => hb (by simp [z])
      exact (sb.2 b b1).trans (hk b ob b1 b2 q)
    have I1 := I.turnedNew (t' := tk + 1) (ch := [e, it]) kk hf (Nat.le_refl _) new
    refine ⟨.ref s.heap.objs.size, _, I1, rfl, ⟨_, x, rfl, I.hok.fresh (Nat.le_refl _), rfl, fun ys hy => by rw [I.tuple_inj hy hq]; exact hx⟩, ⟨⟨y, ?_⟩, hit'.1.at fun o q => (sb.2 it (Ne.symm hne)).trans q⟩, fun b hb => ?_⟩
    · rw [show ((i + 1 : Nat) : Int) = (i : Int) + 1 by omega]; exact he'
    · have hb' : b < s.heap.objs.size := by
        rcases (by simpa using hb : b = e ∨ b = it) with rfl | rfl <;> assumption
      rw [upd_ne (Nat.ne_of_lt hb')]
      exact (hf b hb).1
  done := by
    intro X hP hw hK hc i pins s σ H E I hf st hg
    subst hP hw hK
    obtain ⟨⟨old, he⟩, hit⟩ := st
    obtain ⟨xs, hq, hx⟩ := hg
    obtain ⟨its, rv, p, hz⟩ := I.tuple hq
    obtain ⟨f0, f1, f2, f3, f4, f5⟩ := hf it (by simp)
    have hl : i = its.toArray.size := by rw [List.size_toArray, ← rv.length, hx]
    subst hl
    exact wpAny_pyNext_enum_endD (Draws.tuple (prog := X.prog) (w := X.w) (A := X.A.in1) (I.ok.hd hc) it a hai its.toArray) he ⟨hit, p⟩ fun h' eb => ⟨rfl, I.turned (t' := s.toks) (fun b o hb q => eb b o hb q) f0 f1 f3 f4 f5⟩
  self := fun A i s Q E st h => let ⟨⟨_, he⟩, _⟩ := st; wpAny_pyIter_enum he h
theorem le_two {n b : Nat} (h : b ∈ [n + 1, n]) : n ≤ b := by
  rcases (by simpa using h : b = n + 1 ∨ b = n) with z | z <;> omega
def iEnA (K : PySem.W.Frag) (te : TE) : TI := fun σ H R => te σ H fun x H1 => (∃ a xs, x = .ref a ∧ SqL K H1 a xs ∧ (xs.length ≤ sizeLine → R (Ite K a) H1)) ∨ ∃ a xs, x = .ref a ∧ SqT K H1 a xs ∧ (xs.length ≤ sizeLine → R (IteT K a) H1)
theorem pi_enA {X : Cx} {e : Expr} {te : TE} {p pos tpos : Pos} {elts : List Expr} {kk : Nat} (hg : Gl X "enumerate") (hm : X.mg "enumerate" = none) (ha : PE X e te) (hs : starEach [e] X.env = (false, eval e X.env) :: starEach [] X.env) :
    PI X (.Tuple elts kk tpos) (.Call (.Name "enumerate" p) [e] [] pos) (iEnA X.K te) := by
  refine ⟨fun pins s σ H R I h => Call_ (ld_blt I hg hm boot_enumerate (PyProof.Rows.callWith_type1 (one_arg ha I h (fun v s1 x H1 I1 r1 q1 => ?_) hs) hs rfl))⟩
  rcases q1 with ⟨a, xs, rfl, hq, q⟩ | ⟨a, xs, rfl, hq, q⟩
  · cases r1
    obtain ⟨its, rv, p', hz⟩ := I1.list hq
    refine call_enumB (begins_list a its.toArray) p'.isList fun h' he ho hk => wpAny_pyIter_enum he ?_
    have I2 : Inv X pins σ H1 { s1 with heap := h' } := Inv.kept (t' := s1.toks) I1 hk
    refine ⟨_, [s1.heap.objs.size + 1, s1.heap.objs.size], _, _, H1, rfl, I2, turn_enum a _ _, ⟨⟨.none, he⟩, ⟨_, ho, rfl, rfl⟩, Nat.succ_ne_self _⟩, fun b hb => ?_, q hz⟩
    have hle := le_two hb
    exact I1.fpOk hle (I1.hok.fresh hle)
  · cases r1
    obtain ⟨its, rv, p', hz⟩ := I1.tuple hq
    have hal : a < s1.heap.objs.size := p'.lt
    refine call_enumB (begins_tuple a its.toArray) p' fun h' he ho hk => wpAny_pyIter_enum he ?_
    have I2 : Inv X pins σ H1 { s1 with heap := h' } := Inv.kept (t' := s1.toks) I1 hk
    refine ⟨_, [s1.heap.objs.size + 1, s1.heap.objs.size], _, _, H1, rfl, I2, turn_enumT a _ _ (Nat.ne_of_lt hal) (Nat.ne_of_lt (Nat.lt_succ_of_lt hal)) (Nat.succ_ne_self _), ⟨⟨.none, he⟩, ⟨_, ho, rfl, rfl⟩⟩, fun b hb => ?_, q hz⟩
    have hle := le_two hb
    exact I1.fpOk hle (I1.hok.fresh hle)
end SW

namespace SW
open PySem PySem.Spec PyProof.Rows L2 RZ

/-- an iterator that gives these data -/
structure WalkD (K : PySem.W.Frag) (Hi1 : Hp) (J : L2.It) (ds : List D) : Prop where
  goes : ∀ i H, i < ds.length → Same Hi1 H → J.go i H
  stops : ∀ H, Same Hi1 H → J.stop ds.length H
  ylds : ∀ as i H x H' Hi, i < ds.length → Same Hi1 Hi → Wo as Hi H → J.yld i H x H' → ∃ d Hi', ds[i]? = some d ∧ Go as Hi H Hi' H' ∧ Rp K Hi' x d
def tI (K : PySem.W.Frag) (Φ : Phi) (C : Con) (x : It) : TI := fun σ H R => ∃ as Hi ρ, XOk K as Hi H σ ρ ∧ wpIt Φ C x ρ fun ds => ds.length ≤ sizeLine → ∀ J H' Hi', Go as Hi H Hi' H' → WalkD K Hi' J ds → R J H'
section
variable {K : PySem.W.Frag} {Hi1 : Hp}
theorem walkD_list {a : Addr} {xs : List V} {ds : List D} (h : Hi1 a = some (.lst xs)) (hx : RpAll K Hi1 xs ds) : WalkD K Hi1 (Itl K a) ds := by
  have l := dps_len hx
  refine ⟨fun i H hi e => ⟨xs, xs[i], SqL.of (e _ _ h), by simp [l, hi]⟩, fun H e => ⟨xs, SqL.of (e _ _ h), by omega⟩, fun as i H x H' Hi hi e w y => ?_⟩
  obtain ⟨rfl, y⟩ := y
  have q := y xs (SqL.of (w.sub _ _ (e _ _ h)))
  obtain ⟨d, h1, h2⟩ := dps_get' hx q
  exact ⟨d, Hi, h1, Go.refl w, dp_up e _ _ h2⟩
theorem walkD_tup {a : Addr} {xs : List V} {ds : List D} (h : SqT K Hi1 a xs) (hx : RpAll K Hi1 xs ds) : WalkD K Hi1 (Itt K a) ds := by
  have l := dps_len hx
  refine ⟨fun i H hi e => ⟨xs, xs[i], sqT_up e h, by simp [l, hi]⟩, fun H e => ⟨xs, sqT_up e h, by omega⟩, fun as i H x H' Hi hi e w y => ?_⟩
  obtain ⟨rfl, y⟩ := y
  have q := y xs (sqT_up (e.trans w.sub) h)
  obtain ⟨d, h1, h2⟩ := dps_get' hx q
  exact ⟨d, Hi, h1, Go.refl w, dp_up e _ _ h2⟩
theorem walkD_str {z : Str} : WalkD K Hi1 (Its z) (chrsD z) := by
  have l : (chrsD z).length = z.cps.size := by simp [chrsD]
  refine ⟨fun i H hi e => by rw [l] at hi; exact hi, fun H e => by rw [l]; exact Nat.le_refl _, fun as i H x H' Hi hi e w y => ?_⟩
  obtain ⟨rfl, c, hc, rfl⟩ := y
  refine ⟨.str ⟨#[c]⟩, Hi, ?_, Go.refl w, .str _⟩
  simp [chrsD, hc]
theorem walkD_rng {lo : Int} {n : Nat} {ds : List D} (h : ds = (List.range n).map fun k => PyData.int (lo + (k : Nat))) : WalkD K Hi1 (Itr lo n) ds := by
  subst h
  refine ⟨fun i H hi e => by simpa [Itr] using hi, fun H e => by simp [Itr], fun as i H x H' Hi hi e w y => ?_⟩
  obtain ⟨rfl, rfl⟩ := y
  simp only [List.length_map, List.length_range] at hi
  exact ⟨.int (lo + (i : Nat)), Hi, by simp [hi], Go.refl w, .int _⟩
theorem walkD_rngC {lo c : Int} {n : Nat} : WalkD K Hi1 (Itc lo c n) (rngDC lo c n) := by
  refine ⟨fun i H hi e => by simpa [rngDC, Itc] using hi, fun H e => by simp [Itc, rngDC], fun as i H x H' Hi hi e w y => ?_⟩
  obtain ⟨rfl, rfl⟩ := y
  simp only [rngDC, List.length_map, List.length_range] at hi
  exact ⟨.int (lo + (i : Nat) * c), Hi, by simp [rngDC, hi], Go.refl w, .int _⟩
theorem rngDC_len (lo c : Int) (n : Nat) : (rngDC lo c n).length = n := by simp [rngDC]
theorem enumD_get {ds : List D} {i : Nat} {d : D} (h : ds[i]? = some d) : (enumD ds)[i]? = some (.tuple [.int (i : Nat), d]) := by
  obtain ⟨hl, he⟩ := List.getElem?_eq_some_iff.mp h
  simp [enumD, List.getElem?_zipWith, hl, he]
theorem enumD_len (ds : List D) : (enumD ds).length = ds.length := by simp [enumD]
theorem go_pair {as : Option Addr} {Hi H : Hp} {T : Addr} {x y : V} {d e : D} (w : Wo as Hi H) (hT : H T = none) (hx : Rp K Hi x d) (hy : Rp K Hi y e) :
    Go as Hi H (upd Hi T (.tup [x, y])) (upd H T (.tup [x, y])) ∧ Rp K (upd Hi T (.tup [x, y])) (.ref T) (.tuple [d, e]) := by
  have g := Go.new w (o := .tup [x, y]) hT
  exact ⟨g, .tup (.inl (.inl upd_same)) (.cons (dp_up g.imm _ _ hx) (.cons (dp_up g.imm _ _ hy) .nil))⟩
theorem walkD_enumL {a : Addr} {xs : List V} {ds : List D} (h : Hi1 a = some (.lst xs)) (hx : RpAll K Hi1 xs ds) : WalkD K Hi1 (Ite K a) (enumD ds) := by
  have l := dps_len hx
  refine ⟨fun i H hi e => ?_, fun H e => ⟨xs, SqL.of (e _ _ h), by rw [enumD_len]; omega⟩, fun as i H x H' Hi hi e w y => ?_⟩
  · rw [enumD_len] at hi
    exact ⟨xs, xs[i], SqL.of (e _ _ h), by simp [l, hi]⟩
  · obtain ⟨T, x, rfl, hT, rfl, y⟩ := y
    have q := y xs (SqL.of (w.sub _ _ (e _ _ h)))
    obtain ⟨d, h1, h2⟩ := dps_get' hx q
    obtain ⟨g1, g2⟩ := go_pair (K := K) w hT (.int (i : Nat)) (dp_up e _ _ h2)
    exact ⟨_, _, enumD_get h1, g1, g2⟩
theorem walkD_enumT {a : Addr} {xs : List V} {ds : List D} (h : SqT K Hi1 a xs) (hx : RpAll K Hi1 xs ds) : WalkD K Hi1 (IteT K a) (enumD ds) := by
  have l := dps_len hx
  refine ⟨fun i H hi e => ?_, fun H e => ⟨xs, sqT_up e h, by rw [enumD_len]; omega⟩, fun as i H x H' Hi hi e w y => ?_⟩
  · rw [enumD_len] at hi
    exact ⟨xs, xs[i], sqT_up e h, by simp [l, hi]⟩
  · obtain ⟨T, x, rfl, hT, rfl, y⟩ := y
    have q := y xs (sqT_up (e.trans w.sub) h)
    obtain ⟨d, h1, h2⟩ := dps_get' hx q
    obtain ⟨g1, g2⟩ := go_pair (K := K) w hT (.int (i : Nat)) (dp_up e _ _ h2)
    exact ⟨_, _, enumD_get h1, g1, g2⟩
theorem zipD_get {ds es : List D} {i : Nat} {d e : D} (h : ds[i]? = some d) (h2 : es[i]? = some e) : (zipD ds es)[i]? = some (.tuple [d, e]) := by
  simp [zipD, List.getElem?_zipWith, h, h2]
theorem zipD_len (ds es : List D) : (zipD ds es).length = min ds.length es.length := by simp [zipD]
theorem walkD_zipL {a b : Addr} {xs ys : List V} {ds es : List D} (h : Hi1 a = some (.lst xs)) (hx : RpAll K Hi1 xs ds) (h' : Hi1 b = some (.lst ys)) (hy : RpAll K Hi1 ys es) : WalkD K Hi1 (Itz K a b) (zipD ds es) := by
  have l := dps_len hx
  have l2 := dps_len hy
  refine ⟨fun i H hi e => ?_, fun H e => ⟨xs, ys, SqL.of (e _ _ h), SqL.of (e _ _ h'), by rw [zipD_len]; omega⟩, fun as i H x H' Hi hi e w y => ?_⟩
  · rw [zipD_len] at hi
    exact ⟨xs, ys, xs[i]'(by omega), ys[i]'(by omega), SqL.of (e _ _ h), SqL.of (e _ _ h'), by simp, by simp⟩
  · obtain ⟨T, x, z, rfl, hT, rfl, y1, y2⟩ := y
    obtain ⟨d, h1, h2⟩ := dps_get' hx (y1 xs (SqL.of (w.sub _ _ (e _ _ h))))
    obtain ⟨d2, h3, h4⟩ := dps_get' hy (y2 ys (SqL.of (w.sub _ _ (e _ _ h'))))
    obtain ⟨g1, g2⟩ := go_pair (K := K) w hT (dp_up e _ _ h2) (dp_up e _ _ h4)
    exact ⟨_, _, zipD_get h1 h3, g1, g2⟩
theorem walkD_zipT {a b : Addr} {xs ys : List V} {ds es : List D} (h : SqT K Hi1 a xs) (hx : RpAll K Hi1 xs ds) (h' : SqT K Hi1 b ys) (hy : RpAll K Hi1 ys es) : WalkD K Hi1 (ItzT K a b) (zipD ds es) := by
  have l := dps_len hx
  have l2 := dps_len hy
  refine ⟨fun i H hi e => ?_, fun H e => ⟨xs, ys, sqT_up e h, sqT_up e h', by rw [zipD_len]; omega⟩, fun as i H x H' Hi hi e w y => ?_⟩
  · rw [zipD_len] at hi
    exact ⟨xs, ys, xs[i]'(by omega), ys[i]'(by omega), sqT_up e h, sqT_up e h', by simp, by simp⟩
  · obtain ⟨T, x, z, rfl, hT, rfl, y1, y2⟩ := y
    obtain ⟨d, h1, h2⟩ := dps_get' hx (y1 xs (sqT_up (e.trans w.sub) h))
    obtain ⟨d2, h3, h4⟩ := dps_get' hy (y2 ys (sqT_up (e.trans w.sub) h'))
    obtain ⟨g1, g2⟩ := go_pair (K := K) w hT (dp_up e _ _ h2) (dp_up e _ _ h4)
    exact ⟨_, _, zipD_get h1 h3, g1, g2⟩
end
/-! ### iterables -/
section
variable {X : Cx} {Φ : Phi} {C : Con} (hΦ : PhiMono Φ) {tg : Expr}
theorem piI {X : Cx} {tg e : Expr} {t t' : TI} (h : PI X tg e t) (m : ∀ σ H R, t' σ H R → t σ H R) : PI X tg e t' := ⟨fun pins s σ H R I q => h.run pins s σ H R I (m σ H R q)⟩
include hΦ
theorem i_seq {x : Ex} {e : Expr} (h : PE X e (tE X.K Φ C x)) : PI X tg e (tI X.K Φ C (.seq x)) := by
  refine piI (pi_any h) fun σ H R ⟨as, Hi, ρ, ok, w⟩ => ⟨as, Hi, ρ, ok, wpE_mono hΦ x ρ (fun d q v H1 Hi1 g1 hd => ?_) w⟩
  have w1 := g1.wo ok.toWo
  unfold pSeq at q
  cases d with
  | list ds =>
    cases hd with
    | @lst a xs ds ha hx => exact .inl ⟨a, xs, rfl, SqL.of (w1.sub _ _ ha), fun hz => q (by rw [← dps_len hx]; exact hz) _ _ _ g1 (walkD_list ha hx)⟩
  | tuple ds =>
    cases hd with
    | @tup a xs ds ha hx => exact .inr (.inl ⟨a, xs, rfl, sqT_up w1.sub ha, fun hz => q (by rw [← dps_len hx]; exact hz) _ _ _ g1 (walkD_tup ha hx)⟩)
  | str z =>
    cases hd
    exact .inr (.inr ⟨z, rfl, q.2 (by simp [chrsD]; exact q.1) _ _ _ g1 walkD_str⟩)
  | _ => exact q.elim
theorem i_enum {x : Ex} {e : Expr} {p pos tpos : Pos} {elts : List Expr} {kk : Nat} (hg : Gl X "enumerate") (hm : X.mg "enumerate" = none) (h : PE X e (tE X.K Φ C x)) (hs : noStar e = true) :
    PI X (.Tuple elts kk tpos) (.Call (.Name "enumerate" p) [e] [] pos) (tI X.K Φ C (.enum x)) := by
  refine piI (pi_enA hg hm h (star_cons hs)) fun σ H R ⟨as, Hi, ρ, ok, w⟩ => ⟨as, Hi, ρ, ok, wpE_mono hΦ x ρ (fun d q v H1 Hi1 g1 hd => ?_) w⟩
  have w1 := g1.wo ok.toWo
  cases d with
  | list ds =>
    cases hd with
    | @lst a xs ds ha hx => exact .inl ⟨a, xs, rfl, SqL.of (w1.sub _ _ ha), fun hz => q (by rw [enumD_len, ← dps_len hx]; exact hz) _ _ _ g1 (walkD_enumL ha hx)⟩
  | tuple ds =>
    cases hd with
    | @tup a xs ds ha hx => exact .inr ⟨a, xs, rfl, sqT_up w1.sub ha, fun hz => q (by rw [enumD_len, ← dps_len hx]; exact hz) _ _ _ g1 (walkD_enumT ha hx)⟩
  | _ => exact q.elim
theorem i_zip {x y : Ex} {e e2 : Expr} {p pos tpos : Pos} {elts : List Expr} {kk : Nat} (hg : Gl X "zip") (hm : X.mg "zip" = none) (h : PE X e (tE X.K Φ C x)) (h2 : PE X e2 (tE X.K Φ C y)) (hs : noStar e = true) (hs2 : noStar e2 = true) :
    PI X (.Tuple elts kk tpos) (.Call (.Name "zip" p) [e, e2] [] pos) (tI X.K Φ C (.zip x y)) := by
  refine piI (pi_zipA hg hm (pa_cons h (pa_cons h2 pa_nil (star_cons hs2)) (star_cons hs)) (star_cons hs) (back_any fun z hz => by simp at hz; rw [hz]; exact hs2)) fun σ H R ⟨as, Hi, ρ, ok, w⟩ => ?_
  refine ⟨as, Hi, ρ, ok, wpE_mono hΦ x ρ (fun d q v H1 Hi1 g1 hd => ?_) w⟩
  refine ⟨as, Hi1, ρ, ok.go g1, wpE_mono hΦ y ρ (fun d2 q2 v2 H2 Hi2 g2 hd2 => ?_) q⟩
  have w1 := g1.wo ok.toWo
  have w2 := g2.wo w1
  have g12 := g1.trans ok.toWo g2
  have hd := dp_up g2.imm _ _ hd
  cases d <;> cases d2 <;> first | exact q2.elim | skip
  · cases hd with
    | @lst a xs ds ha hx =>
      cases hd2 with
      | @lst b ys es hb hy =>
        exact ⟨a, b, xs, ys, rfl, .inl ⟨SqL.of (w2.sub _ _ ha), SqL.of (w2.sub _ _ hb), q2.2 (by rw [zipD_len]; have := q2.1; omega) _ _ _ g12 (walkD_zipL ha hx hb hy)⟩⟩
  · cases hd with
    | @tup a xs ds ha hx =>
      cases hd2 with
      | @tup b ys es hb hy =>
        exact ⟨a, b, xs, ys, rfl, .inr ⟨sqT_up w2.sub ha, sqT_up w2.sub hb, q2.2 (by rw [zipD_len]; have := q2.1; omega) _ _ _ g12 (walkD_zipT ha hx hb hy)⟩⟩
theorem i_rng1 {x : Ex} {e : Expr} {p pos : Pos} (hg : Gl X "range") (hm : X.mg "range" = none) (h : PE X e (tE X.K Φ C x)) (hs : noStar e = true) : PI X tg (.Call (.Name "range" p) [e] [] pos) (tI X.K Φ C (.rng1 x)) := by
  refine piI (pi_range1 hg hm (pa_cons h pa_nil (star_cons hs)) (star_cons hs)) fun σ H R ⟨as, Hi, ρ, ok, w⟩ => ⟨as, Hi, ρ, ok, wpE_mono hΦ x ρ (fun d q v H1 Hi1 g1 hd => ?_) w⟩
  cases d <;> first | exact q.elim | skip
  cases hd
  obtain ⟨⟨q1, q2⟩, q⟩ := q
  exact ⟨_, rfl, by omega, by omega, q (by simp [rngD, sizeLine_eq]; omega) _ _ _ g1 (walkD_rng (by simp [rngD]))⟩
theorem i_rng2 {x y : Ex} {e e2 : Expr} {p pos : Pos} (hg : Gl X "range") (hm : X.mg "range" = none) (h : PE X e (tE X.K Φ C x)) (h2 : PE X e2 (tE X.K Φ C y)) (hs : noStar e = true) (hs2 : noStar e2 = true) :
    PI X tg (.Call (.Name "range" p) [e, e2] [] pos) (tI X.K Φ C (.rng2 x y)) := by
  refine piI (pi_range2 hg hm (pa_cons h (pa_cons h2 pa_nil (star_cons hs2)) (star_cons hs)) (by rw [star_cons hs, star_cons hs2]; rfl) (star_cons hs2)) fun σ H R ⟨as, Hi, ρ, ok, w⟩ => ?_
  refine ⟨as, Hi, ρ, ok, wpE_mono hΦ x ρ (fun d q v H1 Hi1 g1 hd => ?_) w⟩
  refine ⟨as, Hi1, ρ, ok.go g1, wpE_mono hΦ y ρ (fun d2 q2 v2 H2 Hi2 g2 hd2 => ?_) q⟩
  have g12 := g1.trans ok.toWo g2
  cases d <;> cases d2 <;> first | exact q2.elim | skip
  cases hd; cases hd2
  obtain ⟨⟨q0, ⟨q1, q3⟩, q4, q5⟩, q⟩ := q2
  exact ⟨_, _, rfl, by omega, q (by simp [rngD, sizeLine_eq]; omega) _ _ _ g12 (walkD_rng rfl)⟩
theorem i_rng3 {x y z : Ex} {e e2 e3 : Expr} {p pos : Pos} (hg : Gl X "range") (hm : X.mg "range" = none) (h : PE X e (tE X.K Φ C x)) (h2 : PE X e2 (tE X.K Φ C y)) (h3 : PE X e3 (tE X.K Φ C z)) (hs : noStar e = true) (hs2 : noStar e2 = true) (hs3 : noStar e3 = true) :
    PI X tg (.Call (.Name "range" p) [e, e2, e3] [] pos) (tI X.K Φ C (.rng3 x y z)) := by
  refine piI (pi_range3 hg hm (pa_cons h (pa_cons h2 (pa_cons h3 pa_nil (star_cons hs3)) (star_cons hs2)) (star_cons hs)) (star_cons hs) (back_any fun u hu => by
    rcases (by simpa using hu : u = e2 ∨ u = e3) with rfl | rfl <;> assumption)) fun σ H R ⟨as, Hi, ρ, ok, w⟩ => ?_
  refine ⟨as, Hi, ρ, ok, wpE_mono hΦ x ρ (fun d q v H1 Hi1 g1 hd => ?_) w⟩
  refine ⟨as, Hi1, ρ, ok.go g1, wpE_mono hΦ y ρ (fun d2 q2 v2 H2 Hi2 g2 hd2 => ?_) q⟩
  have w1 := g1.wo ok.toWo
  refine ⟨as, Hi2, ρ, (ok.go g1).go g2, wpE_mono hΦ z ρ (fun d3 q3 v3 H3 Hi3 g3 hd3 => ?_) q2⟩
  have g13 := (g1.trans ok.toWo g2).trans ok.toWo g3
  cases d <;> cases d2 <;> cases d3 <;> first | exact q3.elim | skip
  cases hd; cases hd2; cases hd3
  obtain ⟨⟨rfl, ⟨q1, q4⟩, rfl⟩, q⟩ := q3
  refine ⟨_, -1, -1, _, rfl, RgC.neg (by omega) (by omega) (by omega) (by omega), ?_⟩
  have e : ∀ k : Int, (k - -1).toNat = (k + 1).toNat := fun k => by omega
  rw [e]
  exact q (by rw [rngDC_len, sizeLine_eq]; omega) _ _ _ g13 walkD_rngC
end
end SW

namespace SW
open PySem PySem.Spec PyProof.Rows L2

/-! ### slots set, wiped -/
theorem getS_set : ∀ {ρ : List S} {i : Nat} {s : S}, i < ρ.length → getS (setS ρ i s) i = s
  | [], _, _, h => absurd h (Nat.not_lt_zero _)
  | _ :: _, 0, _, _ => rfl
  | _ :: l, i + 1, s, h => getS_set (ρ := l) (i := i) (Nat.lt_of_succ_lt_succ h)
theorem getS_ne : ∀ {ρ : List S} {i j : Nat} {s : S}, j ≠ i → getS (setS ρ i s) j = getS ρ j
  | [], _, _, _, _ => rfl
  | _ :: _, 0, 0, _, h => absurd rfl h
  | _ :: _, 0, _ + 1, _, _ => rfl
  | _ :: _, _ + 1, 0, _, _ => rfl
  | _ :: l, i + 1, j + 1, s, h => getS_ne (ρ := l) (i := i) (j := j) (fun e => h (by rw [e]))
theorem getS_out : ∀ {ρ : List S} {i : Nat}, ρ.length ≤ i → getS ρ i = .no
  | [], _, _ => rfl
  | _ :: _, 0, h => absurd h (by simp)
  | _ :: l, i + 1, h => getS_out (ρ := l) (i := i) (Nat.le_of_succ_le_succ h)
theorem setS_len : ∀ (ρ : List S) (i : Nat) (s : S), (setS ρ i s).length = ρ.length
  | [], _, _ => rfl
  | _ :: _, 0, _ => rfl
  | _ :: l, i + 1, s => by simp [setS, setS_len l i s]
theorem wipeS_len (ρ : List S) : ∀ vs : List Nat, (wipeS ρ vs).length = ρ.length
  | [] => rfl
  | v :: vs => by unfold wipeS; rw [setS_len, wipeS_len ρ vs]
theorem wipeS_out {ρ : List S} {i : Nat} : ∀ {vs : List Nat}, i ∉ vs → getS (wipeS ρ vs) i = getS ρ i
  | [], _ => rfl
  | v :: vs, h => by
    unfold wipeS
    rw [getS_ne (fun e => h (by simp [e])), wipeS_out (fun e => h (by simp [e]))]
theorem wipeS_in {ρ : List S} {i : Nat} : ∀ {vs : List Nat}, i ∈ vs → getS (wipeS ρ vs) i = .no
  | [], h => absurd h (by simp)
  | v :: vs, h => by
    unfold wipeS
    by_cases e : i = v
    · subst e
      by_cases hl : i < (wipeS ρ vs).length
      · exact getS_set hl
      · exact getS_out (by rw [setS_len]; omega)
    · rw [getS_ne e]
      exact wipeS_in ((List.mem_cons.mp h).resolve_left e)
theorem wipe_in {σ : St} {i : Nat} : ∀ {vs : List Nat}, i ∈ vs → (wipe σ vs)[i]? = if i < σ.length then some none else none
  | [], h => absurd h (by simp)
  | v :: vs, h => by
    unfold wipe
    by_cases e : i = v
    · subst e
      rw [List.getElem?_set]
      simp [wipe_length]
    · rw [List.getElem?_set_ne (Ne.symm e)]
      exact wipe_in ((List.mem_cons.mp h).resolve_left e)
theorem wipe_eq {σ σ' : St} {vs : List Nat} (hl : σ'.length = σ.length) (h : ∀ j, j ∉ vs → σ'[j]? = (wipe σ vs)[j]?) : wipe σ' vs = wipe σ vs := by
  refine List.ext_getElem? fun j => ?_
  by_cases hj : j ∈ vs
  · rw [wipe_in hj, wipe_in hj, hl]
  · rw [wipe_out hj, h j hj]
theorem XOk.wipe {K : PySem.W.Frag} {as : Option Addr} {Hi H : Hp} {σ : St} {ρ : List S} (x : XOk K as Hi H σ ρ) (vs : List Nat) : XOk K as Hi H (L2.wipe σ vs) (wipeS ρ vs) :=
  { toWo := x.toWo, len := by rw [wipe_length, wipeS_len]; exact x.len, slot := fun i => by
      by_cases hi : i ∈ vs
      · rw [wipeS_in hi]; trivial
      · rw [wipeS_out hi]
        have h := x.slot i
        cases e : getS ρ i with
        | no => trivial
        | own ds => trivial
        | src => rw [e] at h; obtain ⟨a, h1, h2⟩ := h; exact ⟨a, h1, by rw [wipe_out hi]; exact h2⟩
        | scr ns => rw [e] at h; obtain ⟨a, h1, h2⟩ := h; exact ⟨a, by rw [wipe_out hi]; exact h1, h2⟩
        | val d => rw [e] at h; obtain ⟨v, h1, h2⟩ := h; exact ⟨v, by rw [wipe_out hi]; exact h1, h2⟩ }
theorem XOk.set {K : PySem.W.Frag} {as : Option Addr} {Hi H : Hp} {σ : St} {ρ : List S} (x : XOk K as Hi H σ ρ) {v : V} {d : D} (i : Nat) (h : Rp K Hi v d) : XOk K as Hi H (σ.set i (some v)) (setS ρ i (.val d)) :=
  { toWo := x.toWo, len := by rw [List.length_set, setS_len]; exact x.len, slot := fun j => by
      by_cases e : j = i
      · subst e
        by_cases hl : j < ρ.length
        · rw [getS_set hl]
          exact ⟨v, by rw [List.getElem?_set_self (Nat.lt_of_lt_of_le hl x.len)], h⟩
        · rw [getS_out (by rw [setS_len]; omega)]; trivial
      · rw [getS_ne e]
        have h := x.slot j
        have en : (σ.set i (some v))[j]? = σ[j]? := List.getElem?_set_ne (Ne.symm e)
        cases e : getS ρ j with
        | no => trivial
        | own ds => trivial
        | src => rw [e] at h; obtain ⟨a, h1, h2⟩ := h; exact ⟨a, h1, by rw [en]; exact h2⟩
        | scr ns => rw [e] at h; obtain ⟨a, h1, h2⟩ := h; exact ⟨a, by rw [en]; exact h1, h2⟩
        | val d => rw [e] at h; obtain ⟨v, h1, h2⟩ := h; exact ⟨v, by rw [en]; exact h1, h2⟩ }

/-! ### targets -/
def gD (K : PySem.W.Frag) (t : Tg) : TG := fun v σ H Q => ∃ as Hi ρ d, XOk K as Hi H σ ρ ∧ Rp K Hi v d ∧
  wpBind t d ρ fun ρ' => ∀ σ', XOk K as Hi H σ' ρ' → (∀ j, j ∉ tgIx t → σ'[j]? = σ[j]? ∧ getS ρ' j = getS ρ j) → σ'.length = σ.length → ρ'.length = ρ.length → Q σ' H
def gDs (K : PySem.W.Frag) (t : Tgs) : TGs := fun vs σ H Q => ∃ as Hi ρ ds, XOk K as Hi H σ ρ ∧ RpAll K Hi vs ds ∧
  wpBinds t ds ρ fun ρ' => ∀ σ', XOk K as Hi H σ' ρ' → (∀ j, j ∉ tgsIx t → σ'[j]? = σ[j]? ∧ getS ρ' j = getS ρ j) → σ'.length = σ.length → ρ'.length = ρ.length → Q σ' H
theorem chkTs_len {sc : Scope} {N : List Str} : ∀ {l : Tgs} {es : List Expr}, chkTs sc N l es = true → ∀ {ds : List D} {ρ : List S} {Q : List S → Prop}, wpBinds l ds ρ Q → es.length = ds.length
  | .nil, es, h, ds, ρ, Q, w => by
    cases es with
    | nil => cases ds with
      | nil => rfl
      | cons _ _ => exact w.elim
    | cons _ _ => exact absurd h Bool.false_ne_true
  | .cons t l, es, h, ds, ρ, Q, w => by
    cases es with
    | nil => exact absurd h Bool.false_ne_true
    | cons e r =>
      cases ds with
      | nil => exact w.elim
      | cons d ds =>
        simp only [chkTs, Bool.and_eq_true] at h
        have key : ∃ ρ' Q', wpBinds l ds ρ' Q' := by
          have w : wpBind t d ρ fun ρ' => wpBinds l ds ρ' Q := w
          have : ∀ (t : Tg) (d : D) (ρ : List S) (R : List S → Prop), wpBind t d ρ R → ∃ ρ', R ρ' := by
            intro t d ρ R
            exact wpBind_some t d ρ R
          obtain ⟨ρ', q⟩ := this t d ρ _ w
          exact ⟨ρ', Q, q⟩
        obtain ⟨ρ', Q', q⟩ := key
        simp [chkTs_len h.2 q]
where
  wpBind_some : ∀ (t : Tg) (d : D) (ρ : List S) (R : List S → Prop), wpBind t d ρ R → ∃ ρ', R ρ'
    | .nm i, d, ρ, R, h => ⟨_, h⟩
    | .tp l, d, ρ, R, h => by cases d <;> first | exact h.elim | exact wpBinds_some l _ ρ R h
  wpBinds_some : ∀ (t : Tgs) (d : List D) (ρ : List S) (R : List S → Prop), wpBinds t d ρ R → ∃ ρ', R ρ'
    | .nil, d, ρ, R, h => by cases d <;> first | exact h.elim | exact ⟨_, h⟩
    | .cons t l, d, ρ, R, h => by
      cases d with
      | nil => exact h.elim
      | cons d r =>
        obtain ⟨ρ', q⟩ := wpBind_some t d ρ _ h
        exact wpBinds_some l r ρ' R q
theorem asg_len {env : Env} : ∀ {es : List Expr}, (∀ e ∈ es, noStar e = true) → (assignEach es env).length = es.length ∧ (assignEach es env).findIdx? (·.1) = none
  | [], _ => ⟨rfl, rfl⟩
  | e :: es, h => by
    obtain ⟨h1, h2⟩ := asg_len (es := es) (env := env) fun x hx => h x (List.mem_cons_of_mem _ hx)
    rw [asg_cons (h e List.mem_cons_self)]
    refine ⟨by simp [h1], ?_⟩
    rw [List.findIdx?_cons]
    simp [h2]
theorem chkTs_star {sc : Scope} {N : List Str} : ∀ {l : Tgs} {es : List Expr}, chkTs sc N l es = true → ∀ e ∈ es, noStar e = true
  | .nil, es, h => by
    cases es with
    | nil => intro e he; cases he
    | cons _ _ => exact absurd h Bool.false_ne_true
  | .cons t l, es, h => by
    cases es with
    | nil => intro e he; cases he
    | cons e r =>
      simp only [chkTs, Bool.and_eq_true] at h
      intro x hx
      rcases List.mem_cons.mp hx with rfl | hx
      · exact h.1.1
      · exact chkTs_star h.2 x hx
mutual
theorem sndG {sc : Scope} {N : List Str} : ∀ (t : Tg) (e : Expr) (X : Cx), X.N = N → X.N.Nodup → X.calm = true → (∀ x, locB sc x = true → Loc X.env.scope x ∧ (X.fn x = true ∨ X.env.scope.names.lookup x = some .local)) →
    chkT sc N t e = true → PG X e (gD X.K t)
  | .nm i, e, X, hN, nd, hc, hl, h => by
    cases e <;> first | exact absurd h Bool.false_ne_true | skip
    case Name x p =>
      simp only [chkT, Bool.and_eq_true, decide_eq_true_eq] at h
      obtain ⟨⟨h1, h2⟩, h3⟩ := h
      obtain ⟨l1, l2⟩ := hl x h2
      refine ⟨fun pins s σ H v u Q I r ⟨as, Hi, ρ, d, ok, hd, w⟩ => (pg_name (i := i) nd (by rw [hN]; exact h1) l1 l2).run pins s σ H v u Q I r ?_⟩
      refine w _ (ok.set i hd) (fun j hj => ?_) (List.length_set ..) (setS_len ..)
      have e : j ≠ i := fun e => hj (by simp [tgIx, e])
      exact ⟨List.getElem?_set_ne (Ne.symm e), getS_ne e⟩
  | .tp l, e, X, hN, nd, hc, hl, h => by
    cases e <;> first | exact absurd h Bool.false_ne_true | skip
    case Tuple es k p =>
      have h : chkTs sc N l es = true := h
      have hst := chkTs_star h
      obtain ⟨a1, a2⟩ := asg_len (env := X.env) hst
      refine ⟨fun pins s σ H v u Q I r ⟨as, Hi, ρ, d, ok, hd, w⟩ => ?_⟩
      cases d <;> first | exact w.elim | skip
      rename_i ds
      cases hd with
      | @tup a xs ds ha hx =>
        have el : es.length = ds.length := chkTs_len h w
        exact (pg_tup (k := k) (pos := p) (n := es.length) hc (sndGs l es X hN nd hc hl h) a1 a2).run pins s σ H _ u Q I r ⟨a, xs, rfl, sqT_up ok.sub ha, by rw [dps_len hx, el], as, Hi, ρ, ds, ok, hx, w⟩
theorem sndGs {sc : Scope} {N : List Str} : ∀ (t : Tgs) (es : List Expr) (X : Cx), X.N = N → X.N.Nodup → X.calm = true → (∀ x, locB sc x = true → Loc X.env.scope x ∧ (X.fn x = true ∨ X.env.scope.names.lookup x = some .local)) →
    chkTs sc N t es = true → PGs X es (gDs X.K t)
  | .nil, es, X, hN, nd, hc, hl, h => by
    cases es with
    | cons _ _ => exact absurd h Bool.false_ne_true
    | nil =>
      refine ⟨fun pins s σ H vs us Q I r ⟨as, Hi, ρ, ds, ok, hd, w⟩ => pgs_nil.run pins s σ H vs us Q I r ?_⟩
      cases ds with
      | cons _ _ => exact w.elim
      | nil =>
        cases hd
        exact ⟨rfl, w σ ok (fun j _ => ⟨rfl, rfl⟩) rfl rfl⟩
  | .cons t l, es, X, hN, nd, hc, hl, h => by
    cases es with
    | nil => exact absurd h Bool.false_ne_true
    | cons e es =>
      simp only [chkTs, Bool.and_eq_true] at h
      obtain ⟨⟨h1, h2⟩, h3⟩ := h
      refine ⟨fun pins s σ H vs us Q I r ⟨as, Hi, ρ, ds, ok, hd, w⟩ => (pgs_cons (sndG t e X hN nd hc hl h2) (sndGs l es X hN nd hc hl h3) (by rw [asg_cons h1]; rfl)).run pins s σ H vs us Q I r ?_⟩
      cases ds with
      | nil => exact w.elim
      | cons d ds =>
        cases hd with
        | cons hd1 hd2 =>
          refine ⟨_, _, rfl, as, Hi, ρ, d, ok, hd1, wpBind_mono (fun ρ1 q => ?_) t d ρ w⟩
          intro σ1 ok1 same1 len1 len1'
          refine ⟨as, Hi, ρ1, ds, ok1, hd2, wpBinds_mono (fun ρ2 q2 => ?_) l ds ρ1 q⟩
          intro σ2 ok2 same2 len2 len2'
          refine q2 σ2 ok2 (fun j hj => ?_) (len2.trans len1) (len2'.trans len1')
          have j1 : j ∉ tgIx t := fun z => hj (by simp [tgsIx, z])
          have j2 : j ∉ tgsIx l := fun z => hj (by simp [tgsIx, z])
          exact ⟨(same2 j j2).1.trans (same1 j j1).1, (same2 j j2).2.trans (same1 j j1).2⟩
end
end SW

namespace SW
open PySem PySem.Spec PyProof.Rows L2

def tTs (K : PySem.W.Frag) (Φ : Phi) (C : Con) (x : Exs) : TT := fun σ H Q => ∃ as Hi ρ, XOk K as Hi H σ ρ ∧ wpTs Φ C x ρ fun b => ∀ H' Hi', Go as Hi H Hi' H' → Q b H'
def tBp (K : PySem.W.Frag) (Φ : Phi) (C : Con) (op : BoolOp) (x : Exs) : TE := fun σ H Q => ∃ as Hi ρ, XOk K as Hi H σ ρ ∧ wpBop Φ C op x ρ (QD K as Hi H Q)
theorem tF_tE {K : PySem.W.Frag} {Φ : Phi} {C : Con} {x : Ex} (h : ∀ ρ Q, wpE Φ C x ρ Q → wpF Φ C x ρ fun ds => Q (.list ds)) (hΦ : PhiMono Φ) : ∀ σ H Q, tE K Φ C x σ H Q → tF K Φ C x σ H Q :=
  fun σ H Q ⟨as, Hi, ρ, ok, w⟩ => ⟨as, Hi, ρ, ok, wpF_mono hΦ x ρ (fun ds q => QF.froz ok.toWo q) (h ρ _ w)⟩
section
variable {X : Cx} {Φ : Phi} {C : Con} (hΦ : PhiMono Φ)
include hΦ
theorem r_chain {op op2 : CmpOp} {x y z : Ex} {a b d : Expr} {pos : Pos} (hu : X.A.units + 65 < cLine) (ha : Both X Φ C x a) (hb : Both X Φ C y b) (hd : Both X Φ C z d) (hs : noSet d = true) : Both X Φ C (.chain op op2 x y z) (.Compare a [op, op2] [b, d] pos) :=
  ⟨peI (pe_chain (opCmp hu op) (opCmp hu op2) ha.1 hb.1 hd.1 (noSet_marks2 hs)) fun σ H Q ⟨as, Hi, ρ, ok, w⟩ => t_chain hΦ ok w,
    ptI (pt_chain (opCmp hu op) (opCmp hu op2) ha.1 hb.1 hd.1 (noSet_marks2 hs)) fun σ H Q ⟨as, Hi, ρ, ok, w⟩ => t_chain (Q := fun v H1 => ∃ k, v = .bl k ∧ Q k H1) hΦ ok w⟩
theorem r_ite {x y z : Ex} {a b d : Expr} {pos : Pos} (ha : Both X Φ C x a) (hb : Both X Φ C y b) (hd : Both X Φ C z d) : Both X Φ C (.ite x y z) (.IfExp a b d pos) := by
  refine ⟨peI (pe_ifExp ha.2 hb.1 hd.1) fun σ H Q ⟨as, Hi, ρ, ok, w⟩ => ⟨as, Hi, ρ, ok, wpE_mono hΦ x ρ (fun d q v H1 Hi1 g1 hd => ?_) w⟩,
    ⟨fun pins s σ H Q I ⟨as, Hi, ρ, ok, w⟩ => isTrue_IfExp (thn (ha.2.run pins s σ H (fun k H1 => if k = true then tT X.K Φ C y σ H1 Q else tT X.K Φ C z σ H1 Q) I ⟨as, Hi, ρ, ok, wpE_mono hΦ x ρ (fun d q v H1 Hi1 g1 hd => ?_) w⟩) fun c s1 ⟨H1, I1, q1⟩ => ?_)⟩⟩
  · cases d <;> first | exact q.elim | skip
    cases hd
    rename_i k
    refine ⟨_, rfl, ?_⟩
    cases k with
    | true => exact ⟨as, Hi1, ρ, ok.go g1, wpE_mono hΦ y ρ (fun _ q2 => q2.go ok.toWo g1) q⟩
    | false => exact ⟨as, Hi1, ρ, ok.go g1, wpE_mono hΦ z ρ (fun _ q2 => q2.go ok.toWo g1) q⟩
  · cases d <;> first | exact q.elim | skip
    cases hd
    rename_i k
    refine ⟨_, rfl, ?_⟩
    cases k with
    | true => exact ⟨as, Hi1, ρ, ok.go g1, wpE_mono hΦ y ρ (fun _ q2 => q2.go ok.toWo g1) q⟩
    | false => exact ⟨as, Hi1, ρ, ok.go g1, wpE_mono hΦ z ρ (fun _ q2 => q2.go ok.toWo g1) q⟩
  · cases c with
    | true => exact hb.2.run pins s1 σ H1 Q I1 q1
    | false => exact hd.2.run pins s1 σ H1 Q I1 q1
theorem r_tup {es : Exs} {l : List Expr} {k : Nat} {pos : Pos} (h : PA X l (tA X.K Φ C es)) (hl : l.length ≤ 1000) (hn : ∀ ρ Q, wpEs Φ C es ρ Q → wpEs Φ C es ρ fun ds => ds.length = l.length ∧ Q ds) : Both X Φ C (.tup es) (.Tuple l k pos) := by
  refine both_of (peI (pe_tup h) fun σ H Q ⟨as, Hi, ρ, ok, w⟩ => ⟨as, Hi, ρ, ok, wpEs_mono hΦ es ρ (fun ds q vs H1 Hi1 g1 hd => ?_) (hn ρ _ w)⟩) rfl
  refine ⟨by rw [dps_len hd, q.1, sizeLine_eq]; omega, fun p hp => new_tup (g1.wo ok.toWo) (q.2.go ok.toWo g1) hd hp⟩
theorem f_lst {es : Exs} {l : List Expr} {pos : Pos} (h : PA X l (tA X.K Φ C es)) (hl : l.length ≤ 1000) (hn : ∀ ρ Q, wpEs Φ C es ρ Q → wpEs Φ C es ρ fun ds => ds.length = l.length ∧ Q ds) : PE X (.List l pos) (tF X.K Φ C (.lst es)) := by
  refine peI (pe_lst h) fun σ H Q ⟨as, Hi, ρ, ok, w⟩ => ⟨as, Hi, ρ, ok, wpEs_mono hΦ es ρ (fun ds q vs H1 Hi1 g1 hd => ?_) (hn ρ _ w)⟩
  refine ⟨by rw [dps_len hd, q.1, sizeLine_eq]; omega, fun p hp => ?_⟩
  have w1 := g1.wo ok.toWo
  have g2 := Go.newO w1 (o := .lst vs) hp
  have h0 : H p = none := by
    cases e : H p with
    | none => rfl
    | some o =>
      by_cases ha : as = some p
      · obtain ⟨x, y, z, _⟩ := g1.src p ha
        rw [hp] at z; cases z
      · rw [g1.keep p o e ha] at hp; cases hp
  refine q.2 p vs _ _ (g1.trans ok.toWo g2) h0 (hi_none w1 hp) (fun e => ?_) upd_same hd
  obtain ⟨x, y, z, _⟩ := g1.src p e
  rw [hp] at z; cases z
theorem r_lst {es : Exs} {l : List Expr} {pos : Pos} (h : PA X l (tA X.K Φ C es)) (hl : l.length ≤ 1000) (hn : ∀ ρ Q, wpEs Φ C es ρ Q → wpEs Φ C es ρ fun ds => ds.length = l.length ∧ Q ds) : Both X Φ C (.lst es) (.List l pos) :=
  both_of (peI (f_lst hΦ h hl hn) (tF_tE (x := .lst es) (fun _ _ w => w) hΦ)) rfl
theorem r_isi {x : Ex} {a : Expr} {t : Ty4} {p p2 pos : Pos} (ha : Both X Φ C x a) (hs : noStar a = true) (hg : Gl X "isinstance") (hm : X.mg "isinstance" = none) (hg2 : Gl X (ty4S t)) (hm2 : X.mg (ty4S t) = none) :
    Both X Φ C (.isi x t) (.Call (.Name "isinstance" p) [a, .Name (ty4S t) p2] [] pos) := by
  have ht : PE X (.Name (ty4S t) p2) (tC (.ty (ty4S t))) := by
    cases t
    · exact pe_bltn hg2 hm2 PyProof.Rows.boot_int rfl
    · exact pe_bltn hg2 hm2 PyProof.Rows.boot_str rfl
    · exact pe_bltn hg2 hm2 PyProof.Rows.boot_tuple rfl
    · exact pe_bltn hg2 hm2 PyProof.Rows.boot_bool rfl
    · exact pe_bltn hg2 hm2 PyProof.Rows.boot_list rfl
  refine both_of (peI (pe_callB call_isi hg hm PyProof.Rows.boot_isinstance (pa_cons ha.1 (pa_cons ht pa_nil) (star_cons hs)) (by decide) (by decide) (star_cons hs)) fun σ H Q ⟨as, Hi, ρ, ok, w⟩ => ⟨as, Hi, ρ, ok, wpE_mono hΦ x ρ (fun d q v H1 Hi1 g1 hd => ?_) w⟩) rfl
  have w1 := g1.wo ok.toWo
  refine ⟨v, _, _, _, pIsi d t, rfl, .ty _, rp_ty w1.sub hd, kit_ty (kit4 d t fun kv e => ?_), q _ _ _ g1 (.bl _)⟩
  subst e
  cases hd
theorem r_b1 {f : B1} {x : Ex} {a : Expr} {p pos : Pos} (hc : X.calm = true) (hu : X.A.units + 65 < cLine) (hf : isSetF f = false) (ha : Both X Φ C x a) (hs : noStar a = true) (hg : Gl X (b1Name f)) (hm : X.mg (b1Name f) = none) :
    Both X Φ C (.b1 f x) (.Call (.Name (b1Name f) p) [a] [] pos) := by
  have key : ∀ σ H Q, tE X.K Φ C (.b1 f x) σ H Q → tCB (rB1 X.K f) (tCons (tE X.K Φ C x) tNil) σ H Q := fun σ H Q ⟨as, Hi, ρ, ok, w⟩ => ⟨as, Hi, ρ, ok, wpE_mono hΦ x ρ (fun d q v H1 Hi1 g1 hd =>
    ⟨v, as, Hi1, d, rfl, g1.wo ok.toWo, hd, pB1_mono (fun _ q2 => q2.go ok.toWo g1) q⟩) w⟩
  have cb := callB1 (X := X) hc hu f hf
  cases f <;> first | exact absurd hf (by decide) | skip
  · exact both_of (peI (pe_callB cb hg hm boot_len (pa_cons ha.1 pa_nil (star_cons hs)) (by decide) (by decide) (star_cons hs)) key) rfl
  · exact both_of (peI (pe_callB cb hg hm boot_all (pa_cons ha.1 pa_nil (star_cons hs)) (by decide) (by decide) (star_cons hs)) key) rfl
  · exact both_of (peI (pe_callB cb hg hm boot_any (pa_cons ha.1 pa_nil (star_cons hs)) (by decide) (by decide) (star_cons hs)) key) rfl
  · exact both_of (peI (pe_callB cb hg hm boot_sum (pa_cons ha.1 pa_nil (star_cons hs)) (by decide) (by decide) (star_cons hs)) key) rfl
  · exact both_of (peI (pe_callB cb hg hm boot_max (pa_cons ha.1 pa_nil (star_cons hs)) (by decide) (by decide) (star_cons hs)) key) rfl
  · exact both_of (peI (pe_callB cb hg hm boot_min (pa_cons ha.1 pa_nil (star_cons hs)) (by decide) (by decide) (star_cons hs)) key) rfl
  · exact both_of (peI (pe_callB cb hg hm PyProof.Rows.boot_sorted (pa_cons ha.1 pa_nil (star_cons hs)) (by decide) (by decide) (star_cons hs)) key) rfl
  · exact both_of (peI (pe_callTy cb hg hm PyProof.Rows.boot_tuple (pa_cons ha.1 pa_nil (star_cons hs)) (by decide) (by decide) (star_cons hs)) key) rfl
  · exact both_of (peI (pe_callTy cb hg hm PyProof.Rows.boot_list (pa_cons ha.1 pa_nil (star_cons hs)) (by decide) (by decide) (star_cons hs)) key) rfl
  · exact both_of (peI (pe_callTy cb hg hm PyProof.Rows.boot_int (pa_cons ha.1 pa_nil (star_cons hs)) (by decide) (by decide) (star_cons hs)) key) rfl
  · exact both_of (peI (pe_callTy cb hg hm PyProof.Rows.boot_str (pa_cons ha.1 pa_nil (star_cons hs)) (by decide) (by decide) (star_cons hs)) key) rfl
  · exact both_of (peI (pe_callB cb hg hm PyProof.Rows.boot_abs (pa_cons ha.1 pa_nil (star_cons hs)) (by decide) (by decide) (star_cons hs)) key) rfl
theorem r_b2 {f : B2} {x y : Ex} {a b : Expr} {p pos : Pos} (hc : X.calm = true) (ha : Both X Φ C x a) (hb : Both X Φ C y b) (hs : noStar a = true) (hs2 : noStar b = true) (hg : Gl X (b2Name f)) (hm : X.mg (b2Name f) = none) :
    Both X Φ C (.b2 f x y) (.Call (.Name (b2Name f) p) [a, b] [] pos) := by
  have key : ∀ σ H Q, tE X.K Φ C (.b2 f x y) σ H Q → tCB (rB2 X.K f) (tCons (tE X.K Φ C x) (tCons (tE X.K Φ C y) tNil)) σ H Q := fun σ H Q ⟨as, Hi, ρ, ok, w⟩ => ⟨as, Hi, ρ, ok, wpE_mono hΦ x ρ (fun d q v H1 Hi1 g1 hd =>
    ⟨as, Hi1, ρ, ok.go g1, wpE_mono hΦ y ρ (fun d2 q2 v2 H2 Hi2 g2 hd2 => ⟨v, v2, as, Hi2, d, d2, rfl, g2.wo (g1.wo ok.toWo), dp_up g2.imm _ _ hd, hd2, pB2_mono (fun _ q3 => q3.go ok.toWo (g1.trans ok.toWo g2)) q2⟩) q⟩) w⟩
  have an := back_any (pos := pos) (env := X.env) (es := [b]) fun u hu => by simp at hu; rw [hu]; exact hs2
  cases f
  · exact both_of (peI (pe_callB (callB2 hc .max) hg hm boot_max (pa_cons ha.1 (pa_cons hb.1 pa_nil (star_cons hs2)) (star_cons hs)) (by decide) (by decide) (star_cons hs) an) key) rfl
  · exact both_of (peI (pe_callB (callB2 hc .min) hg hm boot_min (pa_cons ha.1 (pa_cons hb.1 pa_nil (star_cons hs2)) (star_cons hs)) (by decide) (by decide) (star_cons hs) an) key) rfl
end
end SW

namespace SW
open PySem PySem.Spec PyProof.Rows L2

theorem atI_rp {K : PySem.W.Frag} {H : Hp} {vs : List V} {ds : List D} {i : Int} {d : D} (h : RpAll K H vs ds) (e : atI ds i = some d) : ∃ v, atI vs i = some v ∧ Rp K H v d := by
  unfold atI at e ⊢
  rw [dps_len h]
  cases q : ixN ds.length i with
  | none => rw [q] at e; cases e
  | some j =>
    rw [q] at e
    exact dps_get h e
theorem opIx {X : Cx} : IxR X (vB X.K pIx) := by
  intro value slice pins s σ H x y v u Q I rx ry h hs
  obtain ⟨as, Hi, d, e, w, hd, he, p⟩ := h
  unfold pIx at p
  split at p
  · cases he
    cases hd with
    | @lst a vs ds ha hx =>
      split at p
      · rename_i q
        obtain ⟨z, h1, h2⟩ := atI_rp hx q
        exact ix_list value slice pins s σ H _ _ v u Q I rx ry ⟨a, vs, _, z, rfl, rfl, SqL.of (w.sub _ _ ha), h1, QD.here w p h2⟩ hs
      · exact p.elim
  · cases he
    cases hd with
    | @tup a vs ds ha hx =>
      split at p
      · rename_i q
        obtain ⟨z, h1, h2⟩ := atI_rp hx q
        exact ix_tup value slice pins s σ H _ _ v u Q I rx ry ⟨a, vs, _, z, rfl, rfl, sqT_up w.sub ha, h1, QD.here w p h2⟩ hs
      · exact p.elim
  · cases he
    cases hd
    obtain ⟨p1, p⟩ := p
    split at p
    · rename_i q
      exact ix_str value slice pins s σ H _ _ v u Q I rx ry ⟨_, _, _, rfl, rfl, p1, q, QD.here w p (.str _)⟩ hs
    · exact p.elim
  · exact p.elim
theorem rng_rp {K : PySem.W.Frag} {H : Hp} (a b : Int) : RpAll K H (rgV a b) (rngD a b) := by
  unfold rgV rngD
  generalize List.range (b - a).toNat = l
  induction l with
  | nil => exact .nil
  | cons x l ih => exact .cons (.int _) ih
def vSl (K : PySem.W.Frag) : V → Option Int → Option Int → Hp → VK → Prop := fun x lo hi H Q => ∃ as Hi d, Wo as Hi H ∧ Rp K Hi x d ∧ pSl d lo hi (QD K as Hi H Q)
theorem cut_rp {K : PySem.W.Frag} {H : Hp} {vs : List V} {ds : List D} (lo hi : Option Int) (h : RpAll K H vs ds) : RpAll K H (cutV vs lo hi) (cutD ds lo hi) := by
  unfold cutV cutD
  rw [dps_len h]
  exact dps_take _ (dps_drop _ h)
theorem opSl {X : Cx} : SlR X (vSl X.K) := by
  intro pins s σ H x v vl vu lo hi sl Q I rx hs pl pu h
  obtain ⟨as, Hi, d, w, hd, p⟩ := h
  unfold pSl at p
  split at p
  · cases hd with
    | @lst a vs ds ha hx => exact sl_list pins s σ H _ v vl vu lo hi sl Q I rx hs pl pu ⟨a, vs, rfl, SqL.of (w.sub _ _ ha), fun q hq => new_lst w p (cut_rp lo hi hx) hq⟩
  · rename_i ds
    cases hd with
    | @tup a vs _ ha hx =>
      refine sl_tupA pins s σ H _ v vl vu lo hi sl Q I rx hs pl pu ⟨a, vs, rfl, sqT_up w.sub ha, fun e => ?_, fun _ q hq => new_tup w p (cut_rp lo hi hx) hq⟩
      have e2 : cutD ds lo hi = ds := by
        unfold cutD
        rw [dps_len hx] at e
        rw [e.1, e.2, List.drop_zero, Nat.sub_zero, List.take_length]
      rw [e2] at p
      exact QD.here w p (.tup ha hx)
  · cases hd
    exact C8.sl_txt pins s σ H _ v vl vu lo hi sl Q I rx hs pl pu ⟨_, rfl, p.1, p.2.here w (.str _)⟩
  · exact p.elim
section
variable {X : Cx} {Φ : Phi} {C : Con} (hΦ : PhiMono Φ)
include hΦ
theorem r_ix {x y : Ex} {a b : Expr} {pos : Pos} (ha : Both X Φ C x a) (hb : Both X Φ C y b) (hs : noSlice b = true) : Both X Φ C (.ix x y) (.Subscript a b pos) :=
  both_of (peI (pe_ix opIx ha.1 hb.1 (noSlice_ix hs)) fun σ H Q ⟨as, Hi, ρ, ok, w⟩ => t_two (f := pIx) (x := x) (y := y) hΦ (fun _ _ _ _ m q => pIx_mono m q) ok w) rfl
theorem r_slT {x y : Ex} {a b : Expr} {p2 pos : Pos} (ha : Both X Φ C x a) (hb : Both X Φ C y b) : Both X Φ C (.slT x y) (.Subscript a (.Slice none (some b) none p2) pos) := by
  refine both_of (peI (pe_slice opSl ha.1 po_none (po_some hb.1)) fun σ H Q ⟨as, Hi, ρ, ok, w⟩ => ⟨as, Hi, ρ, ok, wpE_mono hΦ x ρ (fun d q v H1 Hi1 g1 hd => ?_) w⟩) rfl
  refine ⟨as, Hi1, ρ, ok.go g1, wpE_mono hΦ y ρ (fun d2 q2 v2 H2 Hi2 g2 hd2 => ?_) q⟩
  cases d2 <;> first | exact q2.elim | skip
  cases hd2
  exact ⟨_, rfl, as, Hi2, d, g2.wo (g1.wo ok.toWo), dp_up g2.imm _ _ hd, pSl_mono (fun _ q3 => q3.go ok.toWo (g1.trans ok.toWo g2)) q2⟩
theorem r_slF {x y : Ex} {a b : Expr} {p2 pos : Pos} (ha : Both X Φ C x a) (hb : Both X Φ C y b) : Both X Φ C (.slF x y) (.Subscript a (.Slice (some b) none none p2) pos) := by
  refine both_of (peI (pe_slice opSl ha.1 (po_some hb.1) po_none) fun σ H Q ⟨as, Hi, ρ, ok, w⟩ => ⟨as, Hi, ρ, ok, wpE_mono hΦ x ρ (fun d q v H1 Hi1 g1 hd => ?_) w⟩) rfl
  refine ⟨as, Hi1, ρ, ok.go g1, wpE_mono hΦ y ρ (fun d2 q2 v2 H2 Hi2 g2 hd2 => ?_) q⟩
  cases d2 <;> first | exact q2.elim | skip
  cases hd2
  exact ⟨_, rfl, as, Hi2, d, g2.wo (g1.wo ok.toWo), dp_up g2.imm _ _ hd, pSl_mono (fun _ q3 => q3.go ok.toWo (g1.trans ok.toWo g2)) q2⟩
theorem r_slB {x y z : Ex} {a b d : Expr} {p2 pos : Pos} (ha : Both X Φ C x a) (hb : Both X Φ C y b) (hd : Both X Φ C z d) : Both X Φ C (.slB x y z) (.Subscript a (.Slice (some b) (some d) none p2) pos) := by
  refine both_of (peI (pe_slice opSl ha.1 (po_some hb.1) (po_some hd.1)) fun σ H Q ⟨as, Hi, ρ, ok, w⟩ => ⟨as, Hi, ρ, ok, wpE_mono hΦ x ρ (fun d q v H1 Hi1 g1 hd => ?_) w⟩) rfl
  refine ⟨as, Hi1, ρ, ok.go g1, wpE_mono hΦ y ρ (fun d2 q2 v2 H2 Hi2 g2 hd2 => ?_) q⟩
  cases d2 <;> first | exact q2.elim | skip
  cases hd2
  refine ⟨_, rfl, as, Hi2, ρ, (ok.go g1).go g2, wpE_mono hΦ z ρ (fun d3 q3 v3 H3 Hi3 g3 hd3 => ?_) q2⟩
  cases d3 <;> first | exact q3.elim | skip
  cases hd3
  have g12 := g1.trans ok.toWo g2
  exact ⟨_, rfl, as, Hi3, d, g3.wo (g12.wo ok.toWo), dp_up (g2.imm.trans g3.imm) _ _ hd, pSl_mono (fun _ q3 => q3.go ok.toWo (g12.trans ok.toWo g3)) q3⟩
theorem r_slen {i : Nat} {x : Str} {p p2 pos : Pos} (hN : X.N[i]? = some x) (hv : visB X.env.scope x = true) (hx : okNm x = true) (hg : Gl X "len") (hm : X.mg "len" = none) : Both X Φ C (.slen i) (.Call (.Name "len" p) [.Name x p2] [] pos) := by
  obtain ⟨o1, o2⟩ := okNm_of hx
  refine both_of (peI (pe_callB call_len_seq hg hm boot_len (pa_cons (pe_var hN (visB_of hv) o1 o2) pa_nil)) fun σ H Q ⟨as, Hi, ρ, ok, w⟩ => ?_) rfl
  have hs := ok.slot i
  unfold wpE at w
  split at w
  · rename_i ns e
    rw [e] at hs
    obtain ⟨a, h1, h2⟩ := hs
    refine ⟨_, h1, a, _, rfl, .inl (ok.sub.seq h2), ?_⟩
    rw [List.length_map]
    exact QD.here ok.toWo w (.int _)
  · exact w.elim
theorem r_var {i : Nat} {x : Str} {p : Pos} (hN : X.N[i]? = some x) (hv : visB X.env.scope x = true) (hx : okNm x = true) : Both X Φ C (.var i) (.Name x p) := by
  obtain ⟨o1, o2⟩ := okNm_of hx
  refine both_of (peI (pe_var hN (visB_of hv) o1 o2) fun σ H Q ⟨as, Hi, ρ, ok, w⟩ => ?_) rfl
  have hs := ok.slot i
  unfold wpE at w
  split at w
  · rename_i d e
    rw [e] at hs
    obtain ⟨v, h1, h2⟩ := hs
    exact ⟨v, h1, QD.here ok.toWo w h2⟩
  · exact w.elim
theorem r_lrng1 {x : Ex} {a : Expr} {p p2 pos pos2 : Pos} (hc : X.calm = true) (ha : Both X Φ C x a) (hs : noStar a = true) (hg : Gl X "list") (hm : X.mg "list" = none) (hg2 : Gl X "range") (hm2 : X.mg "range" = none) :
    Both X Φ C (.lrng (.rng1 x)) (.Call (.Name "list" p) [.Call (.Name "range" p2) [a] [] pos2] [] pos) := by
  refine both_of (peI (pe_listRg hc hg hm (prg_1 hg2 hm2 ha.1 (star_cons hs))) fun σ H Q ⟨as, Hi, ρ, ok, w⟩ => ⟨as, Hi, ρ, ok, wpE_mono hΦ x ρ (fun d q v H1 Hi1 g1 hd => ?_) w⟩) rfl
  cases d <;> first | exact q.elim | skip
  cases hd
  obtain ⟨⟨q1, q2⟩, q⟩ := q
  refine ⟨_, rfl, ⟨by decide, by decide, by omega, by omega, by omega⟩, fun l hl => new_lst (g1.wo ok.toWo) (q.go ok.toWo g1) ?_ hl⟩
  exact rng_rp _ _
theorem r_lrng2 {x y : Ex} {a b : Expr} {p p2 pos pos2 : Pos} (hc : X.calm = true) (ha : Both X Φ C x a) (hb : Both X Φ C y b) (hs : noStar a = true) (hs2 : noStar b = true) (hg : Gl X "list") (hm : X.mg "list" = none) (hg2 : Gl X "range") (hm2 : X.mg "range" = none) :
    Both X Φ C (.lrng (.rng2 x y)) (.Call (.Name "list" p) [.Call (.Name "range" p2) [a, b] [] pos2] [] pos) := by
  refine both_of (peI (pe_listRg hc hg hm (prg_2 hg2 hm2 ha.1 hb.1 (star_cons hs) (star_cons hs2) (back_any fun u hu => by simp at hu; rw [hu]; exact hs2))) fun σ H Q ⟨as, Hi, ρ, ok, w⟩ => ⟨as, Hi, ρ, ok, wpE_mono hΦ x ρ (fun d q v H1 Hi1 g1 hd => ?_) w⟩) rfl
  refine ⟨as, Hi1, ρ, ok.go g1, wpE_mono hΦ y ρ (fun d2 q2 v2 H2 Hi2 g2 hd2 => ?_) q⟩
  cases d <;> cases d2 <;> first | exact q2.elim | skip
  cases hd; cases hd2
  obtain ⟨⟨q0, ⟨q1, q3⟩, q4, q5⟩, q⟩ := q2
  have g12 := g1.trans ok.toWo g2
  refine ⟨_, _, rfl, rfl, ⟨by omega, by omega, by omega, by omega, by omega⟩, fun l hl => new_lst (g12.wo ok.toWo) (q.go ok.toWo g12) ?_ hl⟩
  exact rng_rp _ _
end
end SW

namespace SW
open PySem PySem.Spec PyProof.Rows L2

theorem src_ne {as : Option Addr} {Hi H : Hp} (w : Wo as Hi H) {p : Addr} (hp : H p = none) : as ≠ some p := fun e => by
  obtain ⟨_, x, y, z, _⟩ := w.src p e
  rw [hp] at z; cases z
theorem Go.nope {as : Option Addr} {Hi H Hi' H' : Hp} (w : Wo as Hi H) (g : Go as Hi H Hi' H') {p : Addr} (hp : H' p = none) : H p = none := by
  cases e : H p with
  | none => rfl
  | some o => rw [g.keep p o e (src_ne (g.wo w) hp)] at hp; cases hp
/-- an own object changed -/
theorem Go.upd {as : Option Addr} {Hi H Hi' H' : Hp} (w : Wo as Hi H) (g : Go as Hi H Hi' H') {p : Addr} {o : HO} (hp : H p = none) (hi : Hi' p = none) (ha : as ≠ some p) : Go as Hi H Hi' (L2.upd H' p o) := by
  refine ⟨g.imm, fun b o h => ?_, fun b o h n => ?_, g.out, fun a h => ?_⟩
  · rw [upd_ne (ne_of_none h hi)]; exact g.sub _ _ h
  · rw [upd_ne (ne_of_none h hp)]; exact g.keep b o h n
  · obtain ⟨x, y, e, s⟩ := g.src a h
    exact ⟨x, y, by rw [upd_ne (fun z => ha (by rw [← z]; exact h))]; exact e, s⟩
section
variable {X : Cx} {Φ : Phi} {C : Con} (hΦ : PhiMono Φ)
include hΦ
theorem r_slR {x : Ex} {e : Expr} {k : Nat} {p1 p2 p3 pos : Pos} (h : Both X Φ C x e) : Both X Φ C (.slR x) (.Subscript e (.Slice none none (some (.UnaryOp .USub (.Constant (.int 1) k p1) p2)) p3) pos) := by
  refine both_of (peI (pe_revL h.1) fun σ H Q ⟨as, Hi, ρ, ok, w⟩ => ⟨as, Hi, ρ, ok, wpE_mono hΦ x ρ (fun d q v H1 Hi1 g1 hd => ?_) w⟩) rfl
  split at q
  · cases hd with
    | @lst a vs ds ha hx => exact ⟨a, vs, rfl, SqL.of ((g1.wo ok.toWo).sub _ _ ha), fun p hp => new_lst (g1.wo ok.toWo) (q.go ok.toWo g1) (dps_rev hx) hp⟩
  · exact q.elim
/-! ### comprehensions -/
theorem lcF {elt : Ex} {tg : Tg} {it : It} {cond : Exs} {own : List (Str × Nat)} (ht : ∀ i ∈ tgIx tg, i ∈ own.map (·.2)) (σ : St) (H : Hp) (Q : VK) (h : tF X.K Φ C (.comp elt tg it cond own) σ H Q) :
    tLc (tI X.K Φ C it) (gD X.K tg) (tTs X.K Φ C cond) (tE X.K Φ C elt) (own.map (·.2)) σ H Q := by
  obtain ⟨as, Hi, ρ, ok, w⟩ := h
  refine ⟨as, Hi, ρ, ok, wpIt_mono hΦ it ρ (fun ds q hl J H1 Hi1 g1 hJ => ?_) w⟩
  intro D hD
  have w1 := g1.wo ok.toWo
  have hD0 := g1.nope ok.toWo hD
  have haD := src_ne w1 hD
  let vs := own.map (·.2)
  let LC := wpLC (wpBind tg) (fun ρ' K => wpTs Φ C cond ρ' K) (fun ρ' K => wpE Φ C elt ρ' K) (wipeS ρ vs)
  let G := fun (i : Nat) (Hc : Hp) => i ≤ ds.length ∧ ∃ Hic accv accd, Go as Hi1 H1 Hic Hc ∧ Hc D = some (.lst accv) ∧ Hic D = none ∧ RpAll X.K Hic accv accd ∧ accd.length ≤ i ∧ LC (ds.drop i) accd (QF X.K as Hi H Q)
  refine ⟨fun i m Hc => m = ds.length - i ∧ G i Hc, ⟨_, rfl, Nat.zero_le _, Hi1, [], [], ?_, upd_same, hi_none w1 hD, .nil, Nat.le_refl _, q⟩, fun i m Hc ⟨hm, hi, Hic, accv, accd, gc, hcD, hicD, hacc, hal, hw⟩ => ?_⟩
  · exact Go.newO w1 hD
  have wc := gc.wo w1
  by_cases hi2 : i < ds.length
  · refine .inr ⟨hJ.goes i Hc hi2 (gc.imm.trans gc.sub), G (i + 1), fun H' h' => ⟨ds.length - (i + 1), by omega, rfl, h'⟩, fun x H' hy => ?_⟩
    obtain ⟨d, Hi2, hd, g2, hx⟩ := hJ.ylds as i Hc x H' Hic hi2 gc.imm wc hy
    have g12 := gc.trans w1 g2
    have g02 := g1.trans ok.toWo g12
    have hdr : ds.drop i = d :: ds.drop (i + 1) := by
      obtain ⟨_, e⟩ := List.getElem?_eq_some_iff.mp hd
      rw [List.drop_eq_getElem_cons hi2, e]
    rw [hdr] at hw
    have hw : wpBind tg d (wipeS ρ vs) fun ρ' => wpTs Φ C cond ρ' fun k => match k with
      | true => wpE Φ C elt ρ' fun y => LC (ds.drop (i + 1)) (accd ++ [y]) (QF X.K as Hi H Q)
      | false => LC (ds.drop (i + 1)) accd (QF X.K as Hi H Q) := hw
    have hD2 : H' D = some (.lst accv) := g2.keep D _ hcD haD
    have hi2D : Hi2 D = none := g2.out D (by rw [hcD]; exact fun z => nomatch z) hicD
    refine ⟨as, Hi2, wipeS ρ vs, d, (ok.go g02).wipe vs, hx, wpBind_mono (fun ρ' q σ' ok' same len len' => ?_) tg d _ hw⟩
    refine ⟨wipe_eq (len.trans (wipe_length ..)) fun j hj => (same j fun z => hj (ht j z)).1, as, Hi2, ρ', ok', wpTs_mono hΦ cond ρ' (fun b q3 H3 Hi3 g3 => ?_) q⟩
    have g13 := g12.trans w1 g3
    have hD3 : H3 D = some (.lst accv) := g3.keep D _ hD2 haD
    have hi3D : Hi3 D = none := g3.out D (by rw [hD2]; exact fun z => nomatch z) hi2D
    cases b with
    | true =>
      refine ⟨as, Hi3, ρ', ok'.go g3, wpE_mono hΦ elt ρ' (fun y q4 v H4 Hi4 g4 hv => ?_) q3⟩
      have g14 := g13.trans w1 g4
      have hD4 : H4 D = some (.lst accv) := g4.keep D _ hD3 haD
      have hi4D : Hi4 D = none := g4.out D (by rw [hD3]; exact fun z => nomatch z) hi3D
      have hacc4 := dps_up (g2.imm.trans (g3.imm.trans g4.imm)) _ _ hacc
      refine ⟨accv, hD4, by have := dps_len hacc; omega, hi2, Hi4, accv ++ [v], accd ++ [y], g14.upd w1 hD hi4D haD, upd_same, hi4D, dps_app hacc4 (.cons hv .nil), by simp; omega, q4⟩
    | false =>
      exact ⟨hi2, Hi3, accv, accd, g13, hD3, hi3D, dps_up (g2.imm.trans g3.imm) _ _ hacc, by omega, q3⟩
  · have hie : i = ds.length := by omega
    refine .inl ⟨by rw [hie]; exact hJ.stops Hc (gc.imm.trans gc.sub), ?_⟩
    rw [hie, List.drop_length] at hw
    have hw : QF X.K as Hi H Q accd := hw
    exact hw D accv Hc Hic (g1.trans ok.toWo gc) hD0 hicD haD hcD hacc
end
end SW

namespace SW
open PySem PySem.Spec PyProof.Rows L2

theorem QF.go {K : PySem.W.Frag} {as : Option Addr} {Hi H Hi' H' : Hp} {Q : VK} {ds : List D} (w : Wo as Hi H) (q : QF K as Hi H Q ds) (g : Go as Hi H Hi' H') : QF K as Hi' H' Q ds :=
  fun p vs H2 Hi2 g2 h1 h2 h3 h4 h5 => q p vs H2 Hi2 (g.trans w g2) (g.nope w h1) h2 h3 h4 h5
theorem QR.resD {K : PySem.W.Frag} {as : Option Addr} {Hi H : Hp} {Q : VK} (w : Wo as Hi H) : ∀ r, resD (QD K as Hi H Q) r → QR K as Hi H Q r
  | .val d, q => q
  | .own ds, q => QF.froz w q
  | .no, q => trivial
  | .src, q => trivial
  | .scr _, q => trivial
theorem paired_val {K : PySem.W.Frag} {as : Option Addr} {Hi : Hp} : ∀ {ds : List D} {vs : List V}, RpAll K Hi vs ds → Paired (ArgR K as Hi) vs (ds.map .val)
  | [], _, h => by cases h; exact .nil
  | d :: ds, _, h => by
    cases h with
    | cons h1 h2 => exact .cons h1 (paired_val h2)
def lenEs : Exs → Nat
  | .nil => 0
  | .cons _ l => lenEs l + 1
section
variable {X : Cx} {Φ : Phi} {C : Con} (hΦ : PhiMono Φ)
theorem room65 {n : Nat} (h : Room n X.A) : X.A.units + 65 < cLine := by have := h.un; omega
include hΦ
theorem wpEs_len : ∀ (es : Exs) (ρ : List S) {Q : List D → Prop}, wpEs Φ C es ρ Q → wpEs Φ C es ρ fun ds => ds.length = lenEs es ∧ Q ds
  | .nil, ρ, Q, h => ⟨rfl, h⟩
  | .cons e es, ρ, Q, h => wpE_mono hΦ e ρ (fun d q => wpEs_mono hΦ es ρ (fun ds q2 => ⟨by simp [lenEs, q2.1], q2.2⟩) (wpEs_len es ρ q)) h
theorem r_con {x : Ex} {v : V} {d : D} {e : Expr} (h : PE X e (tC v)) (hr : ∀ Hi, Rp X.K Hi v d) (hw : ∀ ρ Q, wpE Φ C x ρ Q → Q d) (hp : plainT e = true) : Both X Φ C x e :=
  both_of (peI h fun σ H Q ⟨as, Hi, ρ, ok, w⟩ => QD.here ok.toWo (hw ρ _ w) (hr Hi)) hp
/-! ### calls -/
theorem call_go {f : Nat} {es : Exs} {l : List Expr} {σ : St} {H : Hp} {Q : VK} {R : Prop} {as : Option Addr} {Hi : Hp} {ρ : List S} (ok : XOk X.K as Hi H σ ρ) (he : lenEs es = l.length) {P : S → Prop} (hP : ∀ r, P r → QR X.K as Hi H Q r)
    (w : wpEs Φ C es ρ fun ds => Φ f (ds.map .val) P) : tA X.K Φ C es σ H fun vs H1 => spF X.K Φ f l.length (vs ++ []) H1 Q C8.E0 := by
  refine ⟨as, Hi, ρ, ok, wpEs_mono hΦ es ρ (fun ds q vs H1 Hi1 g1 hd => ?_) (wpEs_len hΦ es ρ w)⟩
  show spF _ Φ f l.length (vs ++ []) H1 Q C8.E0
  rw [List.append_nil]
  refine ⟨by rw [dps_len hd, q.1, he], as, Hi1, _, g1.wo ok.toWo, paired_val hd, hΦ f _ _ _ (fun r q2 => ?_) q.2⟩
  have := hP r q2
  cases r with
  | val d => exact QD.go ok.toWo this g1
  | own ds => exact QF.go ok.toWo this g1
  | no => trivial
  | src => trivial
  | scr ns => trivial
theorem pe_cal {f j k : Nat} {x : Str} {p pos : Pos} {l : List Expr} {t : TA} (c : C8.Cal X.prog X.w X.K X.mg X.base k x (spF X.K Φ f l.length) []) (hr : Room j X.A) (hk : k ≤ j) (hg : Gl X x) (ha : PA X l t) (hx : okNm x = true) (hs : ∀ e ∈ l, noStar e = true) (ht : l = [] → ∀ σ H Q, t σ H Q → Q [] H) :
    PE X (.Call (.Name x p) l [] pos) (tCall (spF X.K Φ f l.length) [] C8.E0 t) := by
  obtain ⟨o1, o2⟩ := okNm_of hx
  cases l with
  | nil =>
    obtain ⟨f, fd, ps, ds, F, hm, kp, b, d⟩ := c.ex
    exact peI (pe_call0 (E := C8.E0) F (hr.mono hk) hg hm kp b d C8.pass0 o1) fun σ H Q q => ht rfl σ H _ q
  | cons e es => exact C8.pe_c c hr hk hg ha o1 (star_cons (hs e List.mem_cons_self)) (back_any fun u hu => hs u (List.mem_cons_of_mem _ hu))
theorem nil_tA {l : List Expr} {es : Exs} (he : lenEs es = l.length) (e : l = []) (σ : St) (H : Hp) (Q : List V → Hp → Prop) (h : tA X.K Φ C es σ H Q) : Q [] H := by
  subst e
  cases es with
  | nil => obtain ⟨as, Hi, ρ, ok, w⟩ := h; exact w [] H Hi (Go.refl ok.toWo) .nil
  | cons _ _ => cases he
theorem f_call {f j k : Nat} {x : Str} {p pos : Pos} {l : List Expr} {es : Exs} (c : C8.Cal X.prog X.w X.K X.mg X.base k x (spF X.K Φ f l.length) []) (hr : Room j X.A) (hk : k ≤ j) (hg : Gl X x) (ha : PA X l (tA X.K Φ C es)) (hx : okNm x = true) (hs : ∀ e ∈ l, noStar e = true) (he : lenEs es = l.length) :
    PE X (.Call (.Name x p) l [] pos) (tF X.K Φ C (.call f es)) := by
  refine peI (pe_cal hΦ c hr hk hg ha hx hs (nil_tA hΦ he)) fun σ H Q ⟨as, Hi, ρ, ok, w⟩ => call_go (R := True) hΦ ok he (fun r q => ?_) w
  cases r <;> first | exact q.elim | exact q
theorem r_call {f j k : Nat} {x : Str} {p pos : Pos} {l : List Expr} {es : Exs} (c : C8.Cal X.prog X.w X.K X.mg X.base k x (spF X.K Φ f l.length) []) (hr : Room j X.A) (hk : k ≤ j) (hg : Gl X x) (ha : PA X l (tA X.K Φ C es)) (hx : okNm x = true) (hs : ∀ e ∈ l, noStar e = true) (he : lenEs es = l.length) :
    Both X Φ C (.call f es) (.Call (.Name x p) l [] pos) :=
  both_of (peI (pe_cal hΦ c hr hk hg ha hx hs (nil_tA hΦ he)) fun σ H Q ⟨as, Hi, ρ, ok, w⟩ => call_go (R := True) hΦ ok he (QR.resD ok.toWo) w) rfl
theorem r_calls {f j k i : Nat} {x y : Str} {p p2 pos : Pos} {l : List Expr} {es : Exs} (c : C8.Cal X.prog X.w X.K X.mg X.base k x (spF X.K Φ f (l.length + 1)) []) (hr : Room j X.A) (hk : k ≤ j) (hg : Gl X x) (ha : PA X l (tA X.K Φ C es)) (hx : okNm x = true) (hs : ∀ e ∈ l, noStar e = true) (he : lenEs es = l.length)
    (hN : X.N[i]? = some y) (hv : visB X.env.scope y = true) (hy : okNm y = true) : Both X Φ C (.calls f i es) (.Call (.Name x p) (.Name y p2 :: l) [] pos) := by
  obtain ⟨o1, o2⟩ := okNm_of hx
  obtain ⟨o3, o4⟩ := okNm_of hy
  refine both_of (peI (C8.pe_c c hr hk hg (pa_cons (pe_var hN (visB_of hv) o3 o4) ha) o1 rfl (back_any fun u hu => hs u hu)) fun σ H Q ⟨as, Hi, ρ, ok, w⟩ => ?_) rfl
  have hsl := ok.slot i
  unfold wpE at w
  split at w
  · rename_i e
    rw [e] at hsl
    obtain ⟨a, h1, h2⟩ := hsl
    refine ⟨.ref a, h2, as, Hi, ρ, ok, wpEs_mono hΦ es ρ (fun ds q vs H1 Hi1 g1 hd => ?_) (wpEs_len hΦ es ρ w)⟩
    show spF _ Φ f (l.length + 1) ((V.ref a :: vs) ++ []) H1 Q C8.E0
    rw [List.append_nil]
    refine ⟨by simp [dps_len hd, q.1, he], as, Hi1, _, g1.wo ok.toWo, .cons (show ArgR X.K as Hi1 (.ref a) .src from ⟨a, h1, rfl⟩) (paired_val hd), hΦ f _ _ _ (fun r q2 => ?_) q.2⟩
    have := QR.resD ok.toWo r q2
    cases r with
    | val d => exact QD.go ok.toWo this g1
    | own ds => exact QF.go ok.toWo this g1
    | no => trivial
    | src => trivial
    | scr ns => trivial
  · exact w.elim
/-! ### and, or -/
def tBw (K : PySem.W.Frag) (Φ : Phi) (C : Con) (op : BoolOp) (x : Exs) : TT := fun σ H Q => tBp K Φ C op x σ H fun v H' => ∃ k, v = .bl k ∧ Q k H'
abbrev BothB (X : Cx) (Φ : Phi) (C : Con) (x : Exs) (l : List Expr) : Prop := ∀ op pos, PE X (.BoolOp op l pos) (tBp X.K Φ C op x) ∧ PW X (.BoolOp op l pos) (tBw X.K Φ C op x)
theorem pwI {e : Expr} {t t' : TT} (h : PW X e t) (m : ∀ σ H Q, t' σ H Q → t σ H Q) : PW X e t' := ⟨fun wh pins s σ H Q I q => h.run wh pins s σ H Q I (m σ H Q q)⟩
theorem b_one {x : Ex} {a : Expr} (ha : Both X Φ C x a) : BothB X Φ C (.cons x .nil) [a] := by
  intro op pos
  have key : ∀ σ H Q, tBp X.K Φ C op (.cons x .nil) σ H Q → tE X.K Φ C x σ H Q := fun σ H Q ⟨as, Hi, ρ, ok, w⟩ => ⟨as, Hi, ρ, ok, wpE_mono hΦ x ρ (fun d q => by
    cases d <;> first | exact q.elim | exact q) w⟩
  have key2 : ∀ σ H Q, tBw X.K Φ C op (.cons x .nil) σ H Q → tT X.K Φ C x σ H Q := fun σ H Q h => key σ H _ h
  refine ⟨peI (pe_one ha.1) key, ?_⟩
  cases op
  · exact pwI hΦ (pw_and1 ha.2) key2
  · exact pwI hΦ (pw_or1 ha.2) key2
theorem b_more {x y : Ex} {ys : Exs} {a b : Expr} {l : List Expr} (ha : Both X Φ C x a) (hb : BothB X Φ C (.cons y ys) (b :: l)) : BothB X Φ C (.cons x (.cons y ys)) (a :: b :: l) := by
  intro op pos
  cases op
  · refine ⟨peI (pe_and ha.1 (hb .And pos).1) fun σ H Q ⟨as, Hi, ρ, ok, w⟩ => ⟨as, Hi, ρ, ok, wpE_mono hΦ x ρ (fun d q v H1 Hi1 g1 hd => ?_) w⟩,
      pwI hΦ (pw_and ha.2 (hb .And pos).2) fun σ H Q ⟨as, Hi, ρ, ok, w⟩ => ⟨as, Hi, ρ, ok, wpE_mono hΦ x ρ (fun d q v H1 Hi1 g1 hd => ?_) w⟩⟩
    · cases d <;> first | exact q.elim | skip
      cases hd
      rename_i k
      cases k
      · exact ⟨_, rfl, q _ _ _ g1 (.bl _)⟩
      · exact ⟨_, rfl, as, Hi1, ρ, ok.go g1, wpBop_mono hΦ _ _ ρ (fun _ q2 => QD.go ok.toWo q2 g1) q⟩
    · cases d <;> first | exact q.elim | skip
      cases hd
      rename_i k
      refine ⟨k, rfl, ?_⟩
      cases k
      · obtain ⟨k, e, q⟩ := q _ _ _ g1 (.bl _)
        cases e
        exact q
      · exact ⟨as, Hi1, ρ, ok.go g1, wpBop_mono hΦ _ _ ρ (fun _ q2 => QD.go ok.toWo q2 g1) q⟩
  · refine ⟨peI (pe_or ha.1 (hb .Or pos).1) fun σ H Q ⟨as, Hi, ρ, ok, w⟩ => ⟨as, Hi, ρ, ok, wpE_mono hΦ x ρ (fun d q v H1 Hi1 g1 hd => ?_) w⟩,
      pwI hΦ (pw_or ha.2 (hb .Or pos).2) fun σ H Q ⟨as, Hi, ρ, ok, w⟩ => ⟨as, Hi, ρ, ok, wpE_mono hΦ x ρ (fun d q v H1 Hi1 g1 hd => ?_) w⟩⟩
    · cases d <;> first | exact q.elim | skip
      cases hd
      rename_i k
      cases k
      · exact ⟨_, rfl, as, Hi1, ρ, ok.go g1, wpBop_mono hΦ _ _ ρ (fun _ q2 => QD.go ok.toWo q2 g1) q⟩
      · exact ⟨_, rfl, q _ _ _ g1 (.bl _)⟩
    · cases d <;> first | exact q.elim | skip
      cases hd
      rename_i k
      refine ⟨k, rfl, ?_⟩
      cases k
      · exact ⟨as, Hi1, ρ, ok.go g1, wpBop_mono hΦ _ _ ρ (fun _ q2 => QD.go ok.toWo q2 g1) q⟩
      · obtain ⟨k, e, q⟩ := q _ _ _ g1 (.bl _)
        cases e
        exact q
theorem r_bop {op : BoolOp} {es : Exs} {l : List Expr} {pos : Pos} (h : BothB X Φ C es l) : Both X Φ C (.bop op es) (.BoolOp op l pos) :=
  ⟨peI (h op pos).1 fun σ H Q h => h, ptI (h op pos).2.pt fun σ H Q h => h⟩
/-! ### tests, arguments -/
theorem s_nil : PTs X [] (tTs X.K Φ C .nil) := ⟨fun pins s σ H Q I ⟨as, Hi, ρ, ok, w⟩ => pts_nil.run pins s σ H Q I (w H Hi (Go.refl ok.toWo))⟩
theorem s_one {x : Ex} {a : Expr} (ha : Both X Φ C x a) : PTs X [a] (tTs X.K Φ C (.cons x .nil)) :=
  ⟨fun pins s σ H Q I ⟨as, Hi, ρ, ok, w⟩ => (pts_one ha.2).run pins s σ H Q I ⟨as, Hi, ρ, ok, wpE_mono hΦ x ρ (fun d q v H1 Hi1 g1 hd => by
    cases d <;> first | exact q.elim | skip
    cases hd
    exact ⟨_, rfl, q _ _ g1⟩) w⟩⟩
theorem a_nil : PA X [] (tA X.K Φ C .nil) := paI pa_nil fun σ H Q ⟨as, Hi, ρ, ok, w⟩ => w [] H Hi (Go.refl ok.toWo) .nil
theorem a_cons {x : Ex} {xs : Exs} {a : Expr} {l : List Expr} (ha : Both X Φ C x a) (hl : PA X l (tA X.K Φ C xs)) (hs : noStar a = true) : PA X (a :: l) (tA X.K Φ C (.cons x xs)) :=
  paI (pa_cons ha.1 hl (star_cons hs)) fun σ H Q ⟨as, Hi, ρ, ok, w⟩ => ⟨as, Hi, ρ, ok, wpE_mono hΦ x ρ (fun d q v H1 Hi1 g1 hd =>
    ⟨as, Hi1, ρ, ok.go g1, wpEs_mono hΦ xs ρ (fun ds q2 vs H2 Hi2 g2 hds => q2 _ _ _ (g1.trans ok.toWo g2) (.cons (dp_up g2.imm _ _ hd) hds)) q⟩) w⟩
end
end SW

set_option maxHeartbeats 1000000
/-! sets of objects that are keys by what they hold, over any HeapKind -/
namespace SW
open PySem PySem.Spec PyProof.Rows L2

/-- what a set asks of its keys, beyond the kind -/
structure KX {P : Program} {w : World} {κ : Type} [DecidableEq κ] (T : HeapKind P w κ) : Prop where
  cls : ∀ {A : Around} {E : Value → Shared → Prop} {s : Shared} {x : κ} {b : Addr} {Q : Bool → Shared → Prop}, T.is s.heap x b → Q false s → wpAny (model P w) A (ofAClassStatement 8 (.ref b)) Q E s
  byv : ∀ {A : Around} {E : Value → Shared → Prop} {s : Shared} {x : κ} {b : Addr} {Q : Bool → Shared → Prop}, T.is s.heap x b → (∀ v, Q v s) → wpAny (model P w) A (hashByValue 8 (.ref b)) Q E s
  apart : ∀ {h : Heap} {x : κ} {b : Addr} {o : Obj} {rs : Array (Int × Value)} {n : Nat} {t : SetTable}, T.is h x b → h.get? b = some o → o.data ≠ .set rs n t
  keep : ∀ {h h' : Heap} {x : κ} {b : Addr}, T.is h x b → h'.get? b = h.get? b → T.is h' x b
  some : ∀ {h : Heap} {x : κ} {b : Addr}, T.is h x b → ∃ o, h.get? b = .some o
section
variable {P : Program} {w : World} {A : Around} {E : Value → Shared → Prop} {s : Shared}
theorem wp_each {α β : Type} {M : Model} (l : List α) (f : α → β → Sem (ForInStep β)) (b : β) {Q : β → Shared → Prop} (hf : ∀ x ∈ l, f x b = pure (.yield b)) (q : Q b s) : wpAny M A (forIn l b f) Q E s := by
  induction l with
  | nil => exact wpAny_pure q
  | cons x l ih =>
    rw [List.forIn_cons, hf x List.mem_cons_self]
    exact wpAny_bind (wpAny_pure (ih fun y hy => hf y (List.mem_cons_of_mem _ hy)))
theorem wp_each2 {α β : Type} {M : Model} (l : List α) (f : α → β → Sem (ForInStep β)) (b c : β) {Q : β → Shared → Prop} (hf : ∀ x ∈ l, f x b = pure (.yield b) ∨ f x b = pure (.done c)) (q : Q b s) (q2 : Q c s) : wpAny M A (forIn l b f) Q E s := by
  induction l with
  | nil => exact wpAny_pure q
  | cons x l ih =>
    rw [List.forIn_cons]
    rcases hf x List.mem_cons_self with e | e
    · rw [e]
      exact wpAny_bind (wpAny_pure (ih fun y hy => hf y (List.mem_cons_of_mem _ hy)))
    · rw [e]
      exact wpAny_bind (wpAny_pure (wpAny_pure q2))
theorem mix_items {ks : List Key} {vs : List Value} (h : ItemsAre (mixKind P w) ks vs) : ∀ v ∈ vs, (∃ i t, v = .int i t) ∨ ∃ x t, v = .str x t := by
  induction h with
  | nil => intro v hv; cases hv
  | @cons a v' ks vs h1 _ ih =>
    intro v hv
    rcases List.mem_cons.mp hv with rfl | hv
    · rcases keyIs_shape h1 with ⟨i, t, _, e⟩ | ⟨x, t, _, e⟩
      · exact .inl ⟨i, t, e⟩
      · exact .inr ⟨x, t, e⟩
    · exact ih v hv
theorem kx_tup : KX (tupleKind (mixKind P w)) := by
  refine ⟨fun {A E s x b Q} hk q => ?_, fun {A E s x b Q} hk q => ?_, fun {h x b o rs n t} hk e e2 => ?_, fun {h h' x b} hk e => ?_, fun {h x b} ⟨o, _, _, ho, _⟩ => ⟨o, ho⟩⟩
  · have hk : IsTupleKey (mixKind P w) s.heap x b := hk
    have ty := hk.typeIs
    obtain ⟨o, items, n, ho, _, hd, hi⟩ := hk
    have hv := mix_items hi
    unfold ofAClassStatement
    refine wpAny_bind (wpAny_typeOf ty ?_)
    dsimp only
    have et : (("tuple" : String) == "tuple") = true := by decide
    simp only [et, if_true, Bool.not_true, Bool.false_eq_true, if_false]
    try refine wpAny_bind (wpAny_pure ?_)
    show wpAny _ _ (seqItems? (.ref b) >>= _) _ _ s
    refine wpAny_bind (wpAny_seqItems ho hd ?_)
    dsimp only
    refine wpAny_bind ?_
    show wpAny _ _ (forIn items _ _) _ _ s
    rw [← Array.forIn_toList]
    refine wp_each _ _ _ (fun v hm => ?_) ?_
    · rcases hv v hm with ⟨i, t, rfl⟩ | ⟨z, t, rfl⟩ <;> rfl
    · exact wpAny_pure q
  · have hk : IsTupleKey (mixKind P w) s.heap x b := hk
    have ty := hk.typeIs
    obtain ⟨o, items, n, ho, _, hd, hi⟩ := hk
    have hv := mix_items hi
    unfold hashByValue
    refine wpAny_bind (wpAny_specialOf ty F.slot_tuple_hash.lookup ?_)
    show wpAny _ _ (seqItems? (.ref b) >>= _) _ _ s
    refine wpAny_bind (wpAny_seqItems ho hd ?_)
    refine wpAny_bind ?_
    show wpAny _ _ (forIn items _ _) _ _ s
    rw [← Array.forIn_toList]
    refine wp_each2 _ _ _ (some false, ()) (fun v hm => ?_) ?_ ?_
    · rcases hv v hm with ⟨i, t, rfl⟩ | ⟨z, t, rfl⟩
      · exact .inl rfl
      · exact .inr rfl
    · exact wpAny_pure (q true)
    · exact wpAny_pure (q false)
  · obtain ⟨o', items, m, ho, _, hd, _⟩ := hk
    rw [ho] at e
    cases e
    rw [hd] at e2
    cases e2
  · obtain ⟨o', items, m, ho, r⟩ := hk
    exact ⟨o', items, m, e.trans ho, r⟩
end
/-! ### a set's rows and its table -/
section
variable {P : Program} {w : World} {κ : Type} [DecidableEq κ] {T : HeapKind P w κ}
abbrev rowK (T : HeapKind P w κ) (p : Addr × κ) : Int × Value := (T.hash p.2, .ref p.1)
structure TSet (T : HeapKind P w κ) (h : Heap) (a : Addr) (m : List (Addr × κ)) (rs : Array (Int × Value)) (ep : Nat) (t : SetTable) : Prop where
  obj : ∃ o, h.get? a = some o ∧ o.ExactSet ∧ o.data = .set rs ep t
  rws : rs.toList = m.map (rowK T)
  lay : TabOk t (m.map fun p => T.hash p.2)
  led : w.params.followText "set-order" = true ∨ t.led = true
  slack : m.length * 5 < t.mask * 3
  live : ∀ p ∈ m, T.is h p.2 p.1
variable {A : Around} {E : Value → Shared → Prop} {s : Shared} {a : Addr} {m : List (Addr × κ)} {rs : Array (Int × Value)} {ep : Nat} {t : SetTable} {h : Heap}
theorem rows_n (e : rs.toList = m.map (rowK T)) : rs.size = m.length := by
  rw [← Array.length_toList, e, List.length_map]
theorem rows_at (e : rs.toList = m.map (rowK T)) {i : Nat} {p : Addr × κ} (hp : m[i]? = some p) : rs[i]? = some (rowK T p) := by
  rw [← Array.getElem?_toList, e, List.getElem?_map, hp]
  rfl
theorem TSet.places (S : TSet T h a m rs ep t) : t.place.size = m.length := by
  have := S.lay.sz
  rwa [List.length_map] at this
theorem fits_of {n : Nat} (h1 : t.place.size = n) (h2 : t.dummies = #[]) (h3 : n ≤ t.mask) : t.fits n = true := by
  unfold SetTable.fits SetTable.fill
  rw [h2]
  simp [h1, h3]
theorem TSet.fits (S : TSet T h a m rs ep t) : t.fits rs.size = true := by
  have h1 := rows_n S.rws
  have h2 := S.slack
  exact fits_of (S.places.trans h1.symm) S.lay.dm (by omega)
theorem TSet.stays (kx : KX T) {h' : Heap} (S : TSet T h a m rs ep t) (ha : h'.get? a = h.get? a) (hb : ∀ p ∈ m, h'.get? p.1 = h.get? p.1) : TSet T h' a m rs ep t := by
  obtain ⟨o, h1, h2⟩ := S.obj
  exact ⟨⟨o, ha.trans h1, h2⟩, S.rws, S.lay, S.led, S.slack, fun p hp => kx.keep (S.live p hp) (hb p hp)⟩
/-- nobody sees the search -/
theorem seen_no (kx : KX T) {x : Addr} {k : κ} {ys : List Value} {Q : Bool → Shared → Prop} (hx : T.is s.heap k x) (hy : ∀ y ∈ ys, ∃ k' b, y = Value.ref b ∧ T.is s.heap k' b) (q : Q false s) :
    wpAny (model P w) A (searchCouldBeSeen (.ref x) ys) Q E s := by
  unfold searchCouldBeSeen
  refine wpAny_bind (wpAny_forIn_list _ (fun ys' r s' => r.1 = none ∧ s' = s ∧ ∀ y ∈ ys', ∃ k' b, y = Value.ref b ∧ T.is s.heap k' b) _ (fun v ys' r s' hyp => ?_) (fun r s' hyp => ?_) _ _ ⟨rfl, rfl, hy⟩)
  · obtain ⟨h1, rfl, h3⟩ := hyp
    obtain ⟨k', b, rfl, hb⟩ := h3 v List.mem_cons_self
    have tl : ∀ y ∈ ys', ∃ k' b, y = Value.ref b ∧ T.is s'.heap k' b := fun y hy => h3 y (List.mem_cons_of_mem _ hy)
    dsimp only
    by_cases hs : (x == b || (carriedByValue (.ref x) && carriedByValue (.ref b))) = true
    · exact wp_if_pos hs (wpAny_pure ⟨rfl, rfl, tl⟩)
    · refine wp_if_neg hs (wpAny_bind (T.quiet hx ?_))
      simp only [Bool.not_true, Bool.false_eq_true, if_false]
      refine wpAny_bind (T.quiet hb ?_)
      simp only [Bool.not_true, Bool.false_eq_true, if_false]
      refine wpAny_bind (kx.cls hx ?_)
      simp only [Bool.false_eq_true, if_false]
      refine wpAny_bind (kx.cls hb ?_)
      simp only [Bool.false_eq_true, if_false]
      exact wpAny_pure ⟨rfl, rfl, tl⟩
  · obtain ⟨r1, r2⟩ := r
    obtain ⟨h1, rfl, _⟩ := hyp
    dsimp only at h1
    subst h1
    exact wpAny_pure q
/-- the search, from place c of its way on; so far the key was not met -/
theorem seek_from (kx : KX T) (S : TSet T s.heap a m rs ep t) {x : Addr} {k : κ} (hx : T.is s.heap k x) (hr : T.room A) {H : Int} (eH : H = T.hash k) {K : Nat} (hK : way t.mask H K ∉ t.place.toList) (hin : ∀ c, c < K → way t.mask H c ∈ t.place.toList) (hlim : K < 10 * SetTable.turns t.mask)
    {Q : SetFound → Shared → Prop} (found : k ∈ m.map (·.2) → Q (.there none) s) (free : k ∉ m.map (·.2) → Q (.free (way t.mask H K) false) s) :
    ∀ (left c fuel : Nat) (at' : Option SetTable.Probe), K - c = left → c ≤ K → left < fuel → at'.getD (t.probeStart H) = nth t.mask (runAt t.mask (SetTable.bits H % (t.mask + 1)) (SetTable.bits H)) c →
      (∀ (i : Nat) (p : Addr × κ), m[i]? = some p → p.2 = k → ∀ c', c' < c → t.place.toList[i]? ≠ some (way t.mask H c')) → wpAny (model P w) A (setSearchFrom a (.ref x) H true fuel at') Q E s := by
  intro left
  induction left using Nat.strongRecOn with
  | ind left ih =>
    intro c fuel at' el hc hf ea fresh
    obtain ⟨o, ho, hex, hd⟩ := S.obj
    match fuel, hf with
    | fuel + 1, hf =>
      rw [setSearchFrom_succ]
      refine wpAny_bind (wpAny_setState_of ho hd S.fits ?_)
      dsimp only
      refine wp_if_neg (by unfold SetTable.gaveWay; rw [mask_odd S.lay.mok]; decide) ?_
      try refine wpAny_bind (wpAny_pure ?_)
      have clean : ∀ (q : Nat) (pr : SetTable.Probe), pr.dummy = none → (nth t.mask pr q).dummy = none := by
        intro q
        induction q with
        | zero => exact fun _ z => z
        | succ q ih => exact fun pr z => ih (adv t.mask pr) (by unfold adv; split <;> exact z)
      have on : ∀ q, nth t.mask (nth t.mask (runAt t.mask (SetTable.bits H % (t.mask + 1)) (SetTable.bits H)) c) q = nth t.mask (runAt t.mask (SetTable.bits H % (t.mask + 1)) (SetTable.bits H)) (c + q) := fun q => (nth_add t.mask c _ q).symm
      have onj : ∀ q, (nth t.mask (nth t.mask (runAt t.mask (SetTable.bits H % (t.mask + 1)) (SetTable.bits H)) c) q).j = way t.mask H (c + q) := fun q => congrArg SetTable.Probe.j (on q)
      have end' : c + (K - c) = K := by omega
      have hashes : ∀ (i : Nat) (p : Addr × κ), m[i]? = some p → (rs[i]?.map (·.1)).getD 0 = T.hash p.2 := fun i p hp => by rw [rows_at S.rws hp]; rfl
      rcases go_spec t S.lay.ris S.lay.dm (fun i => (rs[i]?.map (·.1)).getD 0) H (10 * SetTable.turns t.mask) (K - c) _ (clean c _ rfl) (by omega) (fun q hq => by rw [onj]; exact hin _ (by omega)) (by rw [onj, end']; exact hK) with ⟨q, i, hq, hi, hh, none', pr⟩ | ⟨none', pr⟩
      · rw [onj] at hi
        have pr' : t.probe (fun i => (rs[i]?.map (·.1)).getD 0) H (at'.getD (t.probeStart H)) = some (.candidate (way t.mask H (c + q)) i (nth t.mask (runAt t.mask (SetTable.bits H % (t.mask + 1)) (SetTable.bits H)) (c + (q + 1)))) := by
          rw [ea, ← onj, ← on]
          exact pr
        rw [pr']
        dsimp only
        obtain ⟨p, hp⟩ : ∃ p, m[i]? = some p := by
          have := (List.getElem?_eq_some_iff.mp hi).1
          rw [Array.length_toList, S.places] at this
          exact ⟨_, List.getElem?_eq_getElem this⟩
        have pm := List.mem_of_getElem? hp
        have after : wpAny (model P w) A (searchRest a (.ref x) H true fuel rs t (way t.mask H (c + q)) i (nth t.mask (runAt t.mask (SetTable.bits H % (t.mask + 1)) (SetTable.bits H)) (c + (q + 1)))) Q E s := by
          unfold searchRest
          rw [rows_at S.rws hp]
          dsimp only
          refine wpAny_bind (wpAny_holding (T.eqBool hr (S.live p pm) hx (wpAny_bind (wpAny_setState_of ho hd S.fits ?_))))
          dsimp only
          by_cases ek : p.2 = k
          · exact wp_if_pos (by simp [ek]) (wpAny_pure (found (List.mem_map.mpr ⟨p, pm, ek⟩)))
          · refine wp_if_neg (by simp [ek]) ?_
            try refine wpAny_bind (wpAny_pure ?_)
            rw [sameMem]
            dsimp only
            have sl : t.slot (way t.mask H (c + q)) = .live i := slot_live S.lay.ris hi
            simp only [if_true, sl, rows_at S.rws hp]
            refine wpAny_bind (wpAny_isSame_ref_self (wpAny_bind (wpAny_pure ?_)))
            simp only [if_true]
            refine wp_if_neg (by simp [ek]) (ih (K - (c + (q + 1))) (by omega) (c + (q + 1)) fuel _ rfl (by omega) (by omega) rfl fun i0 p0 h0 e0 c' hc' => ?_)
            by_cases c1 : c' < c
            · exact fresh i0 p0 h0 e0 c' c1
            · intro z
              by_cases c2 : c' = c + q
              · subst c2
                have sl2 := slot_live S.lay.ris z
                rw [sl] at sl2
                injection sl2 with sl2
                subst sl2
                rw [hp] at h0
                cases h0
                exact ek e0
              · refine none' (c' - c) i0 (by omega) (by rw [onj, show c + (c' - c) = c' by omega]; exact z) ?_
                rw [eH, ← e0]
                exact hashes i0 p0 h0
        by_cases tl : t.led = true
        · refine wp_if_neg (by simp [tl]) ?_
          try refine wpAny_bind (wpAny_pure ?_)
          exact after
        · refine wp_if_pos (by simp [tl]) (wpAny_bind (seen_no kx hx (fun y hy => ?_) ?_))
          · obtain ⟨e, he, rfl⟩ := List.mem_map.mp hy
            have he2 : e ∈ rs ∧ e.1 = H := by simpa using he
            replace he : e ∈ rs.toList := by simpa using he2.1
            rw [S.rws] at he
            obtain ⟨p2, hp2, rfl⟩ := List.mem_map.mp he
            exact ⟨p2.2, p2.1, rfl, S.live p2 hp2⟩
          · refine wp_if_neg Bool.false_ne_true ?_
            try refine wpAny_bind (wpAny_pure ?_)
            exact after
      · have pr' : t.probe (fun i => (rs[i]?.map (·.1)).getD 0) H (at'.getD (t.probeStart H)) = some (.empty (way t.mask H K) none) := by
          have e2 : way t.mask H K = (nth t.mask (nth t.mask (runAt t.mask (SetTable.bits H % (t.mask + 1)) (SetTable.bits H)) c) (K - c)).j := by rw [onj, end']
          rw [ea, e2]
          exact pr
        rw [pr']
        dsimp only
        refine wpAny_pure (free fun hm => ?_)
        obtain ⟨p0, h0, e0⟩ := List.mem_map.mp hm
        obtain ⟨i0, hi0⟩ := List.getElem?_of_mem h0
        have hl : i0 < t.place.toList.length := by
          have := (List.getElem?_eq_some_iff.mp hi0).1
          rw [Array.length_toList, S.places]
          exact this
        obtain ⟨c', hc', e'⟩ := S.lay.before hK (h := H) (i := i0) (by rw [List.getElem?_map, hi0, eH, ← e0]; rfl) (List.getElem?_eq_getElem hl)
        have z : t.place.toList[i0]? = some (way t.mask H c') := by rw [List.getElem?_eq_getElem hl, e']
        by_cases c1 : c' < c
        · exact fresh i0 p0 hi0 e0 c' c1 z
        · refine none' (c' - c) i0 (by omega) (by rw [onj, show c + (c' - c) = c' by omega]; exact z) ?_
          rw [eH, ← e0]
          exact hashes i0 p0 hi0
theorem seek (kx : KX T) (S : TSet T s.heap a m rs ep t) {x : Addr} {k : κ} (hx : T.is s.heap k x) (hr : T.room A) {Q : SetFound → Shared → Prop} (found : k ∈ m.map (·.2) → Q (.there none) s)
    (free : ∀ K, k ∉ m.map (·.2) → way t.mask (T.hash k) K ∉ t.place.toList → (∀ c, c < K → way t.mask (T.hash k) c ∈ t.place.toList) → Q (.free (way t.mask (T.hash k) K) false) s) : wpAny (model P w) A (setSearch a (.ref x) (T.hash k) true) Q E s := by
  have sl := S.slack
  obtain ⟨K, h1, h2, h3⟩ := S.lay.first (by rw [List.length_map]; omega) (T.hash k)
  have hK : K < 100000 := by
    unfold SetTable.turns at h1
    rcases S.lay.mok with e | e | e <;> rw [e] at h1 <;> omega
  unfold setSearch
  exact seek_from kx S hx hr rfl h2 h3 h1 found (fun hn => free K hn h2 h3) K 0 100000 none rfl (Nat.zero_le _) hK rfl fun i p _ _ c' hc' => absurd hc' (Nat.not_lt_zero _)
theorem fm_range {α : Type} : ∀ m : List α, (List.range m.length).filterMap (m[·]?) = m
  | [] => rfl
  | x :: m => by
    rw [List.length_cons, List.range_succ_eq_map, List.filterMap_cons, List.filterMap_map]
    exact congrArg (x :: ·) (fm_range m)
theorem ins_perm {α : Type} (m : List α) (p : Nat) (x : α) : (m.take p ++ x :: m.drop p).Perm (x :: m) := by
  refine List.perm_middle.trans (List.Perm.cons x ?_)
  rw [List.take_append_drop]
/-- laid anew -/
theorem reseat (kx : KX T) {o : Obj} (ho : s.heap.get? a = some o) (hex : o.ExactSet) (hd : o.data = .set rs ep t) (er : rs.toList = m.map (rowK T)) (hp : t.place.size = m.length) (hdm : t.dummies = #[]) (hm : m.length ≤ t.mask) (led : w.params.followText "set-order" = true ∨ t.led = true)
    (live : ∀ p ∈ m, T.is s.heap p.2 p.1) {wanted M : Nat} (hw : SetTable.sizeAbove wanted - 1 = M) (hM : MaskOk M) (small : SetTable.sizeAbove wanted ≤ 128) (hroom : m.length * 5 < M * 3) {Q : Unit → Shared → Prop}
    (q : ∀ h' m' rs' ep' t', Heap.SameBut a s.heap h' → TSet T h' a m' rs' ep' t' → m'.Perm m → Q () { s with heap := h' }) : wpAny (model P w) A (setRelay a wanted) Q E s := by
  have hn := rows_n er
  obtain ⟨t', order, e, perm, lay, e2, e3, _, _⟩ := relaid_ok t (hs := rs.map (·.1)) hw hM (by rw [Array.size_map]; omega)
  rw [Array.size_map, hn] at perm
  have inb : ∀ i ∈ order.toList, i < m.length := fun i hi => List.mem_range.mp (perm.mem_iff.mp hi)
  have get : ∀ i, rs[i]? = (m[i]?).map (rowK T) := fun i => by rw [← Array.getElem?_toList, er, List.getElem?_map]
  obtain ⟨m', hm'⟩ : ∃ m', m' = order.toList.filterMap (m[·]?) := ⟨_, rfl⟩
  have pm : m'.Perm m := by
    have := perm.filterMap (m[·]?)
    rw [fm_range] at this
    rw [hm']
    exact this
  have er' : (order.filterMap (rs[·]?)).toList = m'.map (rowK T) := by
    rw [Array.toList_filterMap, hm', List.map_filterMap]
    exact congrArg (fun f => order.toList.filterMap f) (funext get)
  have hashes : ∀ l : List Nat, (∀ i ∈ l, i < m.length) → (l.map fun i => (rs.map (·.1)).getD i 0) = (l.filterMap (m[·]?)).map fun p => T.hash p.2 := by
    intro l
    induction l with
    | nil => exact fun _ => rfl
    | cons i l ih =>
      intro hl
      have hi := hl i List.mem_cons_self
      have g : m[i]? = some m[i] := List.getElem?_eq_getElem hi
      rw [List.map_cons, List.filterMap_cons_some g, List.map_cons, ih fun j hj => hl j (List.mem_cons_of_mem _ hj)]
      refine congrArg (· :: _) ?_
      rw [Array.getD_eq_getD_getElem?, Array.getElem?_map, get i, g]
      rfl
  rw [hashes _ inb, ← hm'] at lay
  have sz : (order.filterMap (rs[·]?)).size = m.length := by rw [rows_n er', pm.length_eq]
  rw [setRelay_eq]
  refine wpAny_bind (wpAny_setState_of ho hd (fits_of (hp.trans hn.symm) hdm (by omega)) ?_)
  dsimp only
  refine wp_if_neg (by rw [sizeLine_eq]; omega) ?_
  try refine wpAny_bind (wpAny_pure ?_)
  rw [e]
  dsimp only
  refine wpAny_bind (wp_if_neg (by rw [sz, hn]; simp) ?_)
  try refine wpAny_bind (wpAny_pure ?_)
  refine wpAny_pure ?_
  dsimp only
  have sl : m'.length * 5 < t'.mask * 3 := by rw [pm.length_eq, e2]; exact hroom
  refine wpAny_storeSet_of ho hd ?_ (by rw [sz, sizeLine_eq]; rcases hM with z | z | z <;> omega)
  have sb : Heap.SameBut a s.heap (s.heap.update a (Obj.putSet (order.filterMap (rs[·]?)) t')) := Heap.SameBut.update ..
  refine q _ m' _ (ep + 1) t' sb ⟨⟨_, store_at ho hd, ⟨hex.1, hex.2.1, hex.2.2⟩, rfl⟩, er', lay, by rw [e3]; exact led, sl, fun p hp => ?_⟩ pm
  have hl := live p (pm.mem_iff.mp hp)
  exact kx.keep hl (sb.2 p.1 fun z => kx.apart hl (by rw [z]; exact ho) hd)
/-- one key more -/
theorem add_one (kx : KX T) (S : TSet T s.heap a m rs ep t) {x : Addr} {k : κ} (hx : T.is s.heap k x) (hr : T.room A) (few : m.length + 1 < 64) {Q : Bool → Shared → Prop} (old : k ∈ m.map (·.2) → Q false s)
    (new : k ∉ m.map (·.2) → ∀ h' m' rs' ep' t', Heap.SameBut a s.heap h' → TSet T h' a m' rs' ep' t' → m'.Perm ((x, k) :: m) → Q true { s with heap := h' }) : wpAny (model P w) A (setAddHashed a (.ref x) (T.hash k)) Q E s := by
  obtain ⟨o, ho, hex, hd⟩ := S.obj
  have hn := rows_n S.rws
  unfold setAddHashed
  refine wpAny_holding ?_
  rw [show (100000 : Nat) = 99999 + 1 from rfl, setAddHashedIn_succ]
  refine wpAny_bind (wpAny_setState_of ho hd S.fits ?_)
  dsimp only
  refine wp_if_neg (by simp [byScan, Value.scannable]) ?_
  try refine wpAny_bind (wpAny_pure ?_)
  refine wpAny_bind (seek kx S hx hr (fun hm => wpAny_pure (old hm)) fun K hm hK hin => ?_)
  dsimp only
  refine wpAny_bind (wpAny_setState_of ho hd S.fits ?_)
  dsimp only
  obtain ⟨q1, q2, q3, q4, q5, q6, q7, q8, q9⟩ := S.lay.put hK hin
  rw [List.length_map] at q2 q9
  generalize t.put (way t.mask (T.hash k) K) = pt at q1 q3 q4 q5 q6 q7 q8 q9 ⊢
  obtain ⟨t1, pl⟩ := pt
  dsimp only at q1 q3 q4 q5 q6 q7 q8 q9 ⊢
  subst q1
  generalize SetTable.below t.place (way t.mask (T.hash k) K) = pl at q2 q3 ⊢
  have pm := ins_perm m pl (x, k)
  have er : (SetTable.insertAt rs pl (T.hash k, Value.ref x)).toList = (m.take pl ++ (x, k) :: m.drop pl).map (rowK T) := by
    rw [SetTable.toList_insertAt, S.rws, List.map_append, List.map_cons, List.map_take, List.map_drop]
  have hh : (m.map fun p => T.hash p.2).take pl ++ T.hash k :: (m.map fun p => T.hash p.2).drop pl = (m.take pl ++ (x, k) :: m.drop pl).map fun p => T.hash p.2 := by
    rw [List.map_append, List.map_cons, List.map_take, List.map_drop]
  rw [hh] at q3
  have len : (m.take pl ++ (x, k) :: m.drop pl).length = m.length + 1 := pm.length_eq
  generalize SetTable.insertAt rs pl (T.hash k, Value.ref x) = rs1 at er ⊢
  generalize m.take pl ++ (x, k) :: m.drop pl = m1 at pm er q3 len
  have n1 := rows_n er
  -- from the table, marked plain or not
  have go : ∀ t2 : SetTable, t2.place = t1.place → t2.dummies = t1.dummies → t2.mask = t1.mask → t2.led = t1.led → TabOk t2 (m1.map fun p => T.hash p.2) → wpAny (model P w) A (do
      storeSet a rs1 t2
      if (!false && t2.tooFull) = true then setRelay a (SetTable.grown (rs.size + 1))
      pure true) Q E s := fun t2 z1 z2 z3 z4 lay2 => by
    have pz : t2.place.size = m1.length := by
      have := lay2.sz
      rwa [List.length_map] at this
    have sl := S.slack
    refine wpAny_bind (wpAny_storeSet_of ho hd ?_ (by rw [n1, sizeLine_eq]; omega))
    have sb : Heap.SameBut a s.heap (s.heap.update a (Obj.putSet rs1 t2)) := Heap.SameBut.update ..
    have ho1 := store_at (es' := rs1) (t' := t2) ho hd
    generalize s.heap.update a (Obj.putSet rs1 t2) = h1 at sb ho1 ⊢
    have live1 : ∀ p ∈ m1, T.is h1 p.2 p.1 := fun p hp => by
      have hl : T.is s.heap p.2 p.1 := by
        rcases List.mem_cons.mp (pm.mem_iff.mp hp) with z | z
        · rw [z]; exact hx
        · exact S.live p z
      exact kx.keep hl (sb.2 p.1 fun z => kx.apart hl (by rw [z]; exact ho) hd)
    have led1 : w.params.followText "set-order" = true ∨ t2.led = true := by rw [z4, q5]; exact S.led
    have full : t2.tooFull = decide ((m.length + 1) * 5 ≥ t.mask * 3) := by
      unfold SetTable.tooFull SetTable.fill
      rw [pz, lay2.dm, z3, q4, len]
      rfl
    by_cases hf : t2.tooFull = true
    · have hfull : (m.length + 1) * 5 ≥ t.mask * 3 := by rw [full] at hf; exact of_decide_eq_true hf
      have two : (t.mask = 7 ∧ m.length = 4) ∨ (t.mask = 31 ∧ m.length = 18) := by
        rcases S.lay.mok with z | z | z <;> rw [z] at hfull sl <;> omega
      simp only [Bool.not_false, Bool.true_and, hf, if_true]
      rw [hn]
      have re : ∀ M, SetTable.sizeAbove (SetTable.grown (m.length + 1)) - 1 = M → MaskOk M → SetTable.sizeAbove (SetTable.grown (m.length + 1)) ≤ 128 → (m.length + 1) * 5 < M * 3 →
          wpAny (model P w) A (setRelay a (SetTable.grown (m.length + 1))) (fun _ s' => wpAny (model P w) A (pure true) Q E s') E { s with heap := h1 } := fun M r1 r2 r3 r4 =>
        reseat kx (s := { s with heap := h1 }) (m := m1) ho1 ⟨hex.1, hex.2.1, hex.2.2⟩ rfl er pz lay2.dm (by rw [len, z3, q4]; omega) led1 live1 r1 r2 r3 (by rw [len]; exact r4) fun h2 m2 rs2 ep2 t3 sb2 S2 pm2 => wpAny_pure (new hm h2 m2 rs2 ep2 t3 (sb.trans sb2) S2 (pm2.trans pm))
      refine wpAny_bind ?_
      rcases two with ⟨_, e⟩ | ⟨_, e⟩
      · exact re 31 (by rw [e, size_20]) (.inr (.inl rfl)) (by rw [e, size_20]; decide) (by omega)
      · exact re 127 (by rw [e, size_76]) (.inr (.inr rfl)) (by rw [e, size_76]; decide) (by omega)
    · simp only [hf, Bool.and_false, Bool.false_eq_true, if_false]
      refine wpAny_pure (new hm h1 m1 rs1 (ep + 1) t2 sb ⟨⟨_, ho1, ⟨hex.1, hex.2.1, hex.2.2⟩, rfl⟩, er, lay2, led1, ?_, live1⟩ pm)
      have : ¬ ((m.length + 1) * 5 ≥ t.mask * 3) := fun z => hf (by rw [full]; exact decide_eq_true z)
      rw [len, z3, q4]
      omega
  have g0 := go t1 rfl rfl rfl rfl q3
  have g1 := go { t1 with plain := false } rfl rfl rfl rfl ⟨q3.ris, q3.dm, q3.sz, q3.mok, q3.bd, q3.reach⟩
  by_cases hp : t1.plain = true
  · simp only [hp, if_true]
    refine wpAny_bind (kx.byv hx fun v => ?_)
    cases v with
    | true => exact g0
    | false => exact g1
  · simp only [hp, if_false]
    refine wpAny_bind (wpAny_pure ?_)
    exact g0
end
end SW

namespace SW
open PySem PySem.Spec PyProof.Rows L2

section
variable {P : Program} {w : World} {κ : Type} [DecidableEq κ] {T : HeapKind P w κ}
/-- what a set holds of the first i keys -/
structure Met (ks : List (Addr × κ)) (i : Nat) (m : List (Addr × κ)) : Prop where
  sub : ∀ p ∈ m, p ∈ ks
  cov : ∀ p ∈ ks.take i, p.2 ∈ m.map (·.2)
  nd : (m.map (·.2)).Nodup
  len : m.length ≤ i
theorem take_one {α : Type} {l : List α} {i : Nat} {x : α} (h : l[i]? = some x) : l.take (i + 1) = l.take i ++ [x] := by
  rw [List.take_add_one, h]
  rfl
theorem Met.old {ks m : List (Addr × κ)} {i : Nat} {p : Addr × κ} (g : Met ks i m) (hp : ks[i]? = some p) (hm : p.2 ∈ m.map (·.2)) : Met ks (i + 1) m := by
  refine ⟨g.sub, fun q hq => ?_, g.nd, Nat.le_succ_of_le g.len⟩
  rw [take_one hp, List.mem_append, List.mem_singleton] at hq
  rcases hq with z | rfl
  · exact g.cov q z
  · exact hm
theorem Met.new {ks m m' : List (Addr × κ)} {i : Nat} {p : Addr × κ} (g : Met ks i m) (hp : ks[i]? = some p) (hm : p.2 ∉ m.map (·.2)) (pm : m'.Perm (p :: m)) : Met ks (i + 1) m' := by
  have pk := pm.map (·.2)
  refine ⟨fun q hq => ?_, fun q hq => ?_, ?_, ?_⟩
  · rcases List.mem_cons.mp (pm.mem_iff.mp hq) with rfl | z
    · exact List.mem_of_getElem? hp
    · exact g.sub q z
  · rw [take_one hp, List.mem_append, List.mem_singleton] at hq
    rw [pk.mem_iff, List.map_cons, List.mem_cons]
    rcases hq with z | rfl
    · exact .inr (g.cov q z)
    · exact .inl rfl
  · rw [pk.nodup_iff, List.map_cons]
    exact List.nodup_cons.mpr ⟨hm, g.nd⟩
  · rw [pm.length_eq, List.length_cons]
    exact Nat.succ_le_succ g.len
variable {A : Around} {E : Value → Shared → Prop} {s : Shared}
/-- the loop of set.update, at its i-th turn -/
theorem upd_turns (kx : KX T) {I sa : Addr} {fp wr : List Addr} {G : Array GenState → Array GenState → Prop} {n : Nat} {Pv : Nat → Value → Prop} {St : Nat → Shared → Prop} {R : Result → Shared → Prop} (W : WalksS P w A.in1 I fp wr G n Pv St) (hsa : sa ∉ fp)
    (ks : List (Addr × κ)) (hn : n = ks.length) (few : ks.length < 64) (val : ∀ i v, Pv i v → ∃ p, ks[i]? = some p ∧ v = .ref p.1) {h0 : Heap} (live : ∀ p ∈ ks, T.is h0 p.2 p.1) (f1 : h0.get? sa = none) (f2 : ∀ b ∈ wr, h0.get? b = none) (hr : T.room A.in1) :
    ∀ (left i : Nat) (s : Shared), n - i = left → i ≤ n → St i s → (∀ b o, h0.get? b = some o → s.heap.get? b = some o) → (∃ m rs ep t, TSet T s.heap sa m rs ep t ∧ Met ks i m) →
      (∀ s' m rs ep t, Moved (sa :: wr) G s s' → TSet T s'.heap sa m rs ep t → Met ks n m → (∀ b o, h0.get? b = some o → s'.heap.get? b = some o) → R (.ok (.ret .none)) s') →
      codeAny (model P w) A (.builtin "set.update.loop" ⟨[.ref sa, .ref I], []⟩) R s := by
  have up : ∀ b ∈ wr, b ∈ sa :: wr := fun b hb => List.mem_cons_of_mem _ hb
  have same : ∀ {p : Addr × κ} {h1 h2 : Heap}, p ∈ ks → (∀ b o, h0.get? b = some o → h1.get? b = some o) → (∀ b o, h0.get? b = some o → h2.get? b = some o) → T.is h1 p.2 p.1 → (∃ o, h0.get? p.1 = some o) → T.is h2 p.2 p.1 := fun hp k1 k2 hi ⟨o, ho⟩ => kx.keep hi ((k2 _ _ ho).trans (k1 _ _ ho).symm)
  have there : ∀ p ∈ ks, ∃ o, h0.get? p.1 = some o := fun p hp => kx.some (live p hp)
  have notw : sa ∉ wr := fun z => hsa (W.sub _ z)
  have on : ∀ {s s' : Shared}, Moved wr G s s' → (∀ b o, h0.get? b = some o → s.heap.get? b = some o) → ∀ b o, h0.get? b = some o → s'.heap.get? b = some o := fun mv k b o e => mv.heap b o (fun z => by rw [f2 b z] at e; cases e) (k b o e)
  -- the set stands through a turn of the iterator
  have stand : ∀ {s s' : Shared} {m rs ep t i}, Moved wr G s s' → (∀ b o, h0.get? b = some o → s.heap.get? b = some o) → TSet T s.heap sa m rs ep t → Met ks i m → TSet T s'.heap sa m rs ep t := fun {s s' m rs ep t i} mv k S g => by
    obtain ⟨o, ho, _⟩ := S.obj
    refine S.stays kx ((mv.heap sa o notw ho).trans ho.symm) fun p hp => ?_
    obtain ⟨o', ho'⟩ := there p (g.sub p hp)
    exact (on mv k _ _ ho').trans (k _ _ ho').symm
  intro left
  induction left with
  | zero =>
    intro i s e hi st k ⟨m, rs, ep, t, S, g⟩ fin
    obtain rfl : i = n := by omega
    refine codeAny_builtin F.entry_set_update_loop ?_
    rw [Around.under_plainId F.plain_set_update_loop _]
    show wpAny _ A.in1 (pyNext (.ref I) >>= _) _ _ s
    refine wpAny_bind (W.done s _ _ st fun s' mv => ?_)
    exact (show wpAny _ A.in1 (ret Value.none) _ _ s' from wpAny_pure (fin s' m rs ep t (mv.mono up) (stand mv k S g) g (on mv k)))
  | succ left ih =>
    intro i s e hi st k ⟨m, rs, ep, t, S, g⟩ fin
    have lt : i < n := by omega
    refine codeAny_builtin F.entry_set_update_loop ?_
    rw [Around.under_plainId F.plain_set_update_loop _]
    show wpAny _ A.in1 (pyNext (.ref I) >>= _) _ _ s
    refine wpAny_bind (W.item i s _ _ lt st fun v s' hv st' mv => ?_)
    obtain ⟨p, hp, rfl⟩ := val i v hv
    have pin := List.mem_of_getElem? hp
    have S1 := stand mv k S g
    have k1 := on mv k
    have hx : T.is s'.heap p.2 p.1 := by
      obtain ⟨o, ho⟩ := there p pin
      exact kx.keep (live p pin) ((k1 _ _ ho).trans ho.symm)
    show wpAny _ A.in1 (holding [Value.ref p.1] (setAdd sa (.ref p.1)) >>= _) _ _ s'
    refine wpAny_bind (wpAny_holding ?_)
    unfold setAdd
    refine wpAny_holding (wpAny_bind (T.pyHash hr hx ?_))
    have next : ∀ (h2 : Heap) (b : Bool) m2 rs2 ep2 t2, Heap.SameBut sa s'.heap h2 → TSet T h2 sa m2 rs2 ep2 t2 → Met ks (i + 1) m2 → wpAny (model P w) A.in1 (pure (Fin.again (.builtin "set.update.loop" ⟨[.ref sa, .ref I], []⟩))) (fun fin s'' => match fin with
        | .done f => R (.ok f) s''
        | .again c' => c'.quiet = true ∧ codeAny (model P w) A c' R s'') (fun e s'' => R (.error e) s'') { s' with heap := h2, toks := s'.toks + T.draws p.2 } := fun h2 b m2 rs2 ep2 t2 sb S2 g2 => by
      have k2 : ∀ b o, h0.get? b = some o → h2.get? b = some o := fun b o e => (sb.2 b (fun z => by rw [z, f1] at e; cases e)).trans (k1 b o e)
      refine wpAny_pure ⟨plainId_quiet F.plain_set_update_loop _, ih (i + 1) _ (by omega) lt (W.frame _ s' _ _ st' (Nat.le_add_right _ _) fun b hb o e => ?_) k2 ⟨m2, rs2, ep2, t2, S2, g2⟩ fun s'' m3 rs3 ep3 t3 mv3 S3 g3 k3 => ?_⟩
      · exact (sb.2 b fun z => hsa (by rw [← z]; exact hb)).trans e
      · exact fin s'' m3 rs3 ep3 t3 (Moved.trans W.gtrans ((mv.mono up).then_heap (Nat.le_add_right _ _) fun b o hb e => (sb.2 b fun z => hb (by rw [z]; exact List.mem_cons_self)).trans e) mv3) S3 g3 k3
    refine add_one kx (s := { s' with toks := s'.toks + T.draws p.2 }) S1 hx hr (by have := g.len; omega) (fun hm => ?_) fun hm h2 m2 rs2 ep2 t2 sb S2 pm => ?_
    · exact next s'.heap false m rs ep t (Heap.SameBut.refl sa s'.heap) S1 (g.old hp hm)
    · exact next h2 true m2 rs2 ep2 t2 sb S2 (g.new hp hm pm)
end
end SW

namespace SW
open PySem PySem.Spec PyProof.Rows L2

section
variable {P : Program} {w : World} {κ : Type} [DecidableEq κ] {T : HeapKind P w κ} {A : Around} {E : Value → Shared → Prop} {s : Shared}
abbrev set0 (w : World) : Obj := { cls := .type "set", dict := none, data := .set #[] 0 (.fresh 0 0 (!w.params.followText "set-order")) }
theorem tset0 {h : Heap} {a : Addr} (ho : h.get? a = some (set0 w)) : TSet T h a [] #[] 0 (.fresh 0 0 (!w.params.followText "set-order")) :=
  { obj := ⟨_, ho, ⟨rfl, rfl, rfl⟩, rfl⟩, rws := rfl, lay := ⟨.nil, rfl, rfl, .inl rfl, fun x hx => absurd hx (by simp [SetTable.fresh]), fun i h j hi => by simp at hi⟩
    led := by
      show _ ∨ (!w.params.followText "set-order") = true
      cases w.params.followText "set-order" <;> simp
    slack := show 0 * 5 < 7 * 3 by decide, live := fun p hp => (nomatch hp) }
set_option maxHeartbeats 3200000 in
/-- set(xs), xs a list of such keys -/
theorem call_setK (kx : KX T) {l : Addr} {its : Array Value} (ks : List (Addr × κ)) {Q : Value → Shared → Prop} (hh : A.handled = none) (hl : s.heap.IsList l its) (hit : its.toList = ks.map fun p => Value.ref p.1) (live : ∀ p ∈ ks, T.is s.heap p.2 p.1) (few : ks.length < 64) (hr : T.room A.in1.in1.in1)
    (q : ∀ h' tk m rs ep t, TSet T h' s.heap.objs.size m rs ep t → Met ks ks.length m → (∀ b o, s.heap.get? b = some o → h'.get? b = some o) → Q (.ref s.heap.objs.size) { s with heap := h', toks := tk }) : wpAny (model P w) A (call (.type "set") [.ref l]) Q E s := by
  have nIt : its.size = ks.length := by rw [← Array.length_toList, hit, List.length_map]
  have ⟨c0, tl0, mro0⟩ := F.called_set.mro
  have made0 := F.called_set.made; have sub0 := F.called_set.sub
  refine wpAny_call (codeAny_of_tree (?_ : wpAny _ _ (callAny (.type "set") _) _ _ _))
  refine wpAny_pure ⟨Code.quiet_builtin _ (by decide +kernel), codeAny_builtin F.entry_type_call ?_⟩
  rw [Around.under_plain (weight_type_call_type "set" [.ref l] []) rfl]
  have nt0 := F.called_set.notType; have cc0 := F.called_set.canCreate; have ct0 := F.typeCall_set_1 (.ref l)
  repeat (any_goals (first | assumption | wp_step))
  refine codeAny_mono (code_set_led1 (.ref l) (E := E) (Q₁ := fun u s₁ => u = .ref s.heap.objs.size ∧ s₁ = { s with heap := s.heap.push (set0 w) }) ⟨rfl, rfl⟩) fun r s₁ hr₁ => ?_
  match r, hr₁ with
  | .error e, hr₁ => exact hr₁
  | .ok (.ret u), hr₁ =>
    obtain ⟨rfl, rfl⟩ := hr₁
    have at0 : (s.heap.push (set0 w)).get? s.heap.objs.size = some (set0 w) := Heap.get?_push_size _ rfl
    have ty0 : Shared.TypeIs { s with heap := s.heap.push (set0 w) } (.ref s.heap.objs.size) "set" := ⟨_, at0, rfl⟩
    have li0 := F.called_set.init.lookup; have bi0 := F.called_set.init.bind (.ref s.heap.objs.size)
    repeat (any_goals (first | assumption | wp_step))
    refine codeAny_mono (codeAny_call_builtin (R := wants (fun r s₂ => r = .none ∧ ∃ h' tk m rs ep t, s₂ = { s with heap := h', toks := tk } ∧ TSet T h' s.heap.objs.size m rs ep t ∧ Met ks ks.length m ∧ ∀ b o, s.heap.get? b = some o → h'.get? b = some o) E)
      F.called_set.init.plain F.entry_set_init (check_set_init_1 ty0 ?_)) fun r₂ s₂ hr₂ => ?_
    · obtain ⟨⟨oc, od, odt, osl⟩, hol, cl, n1, dt⟩ := hl
      dsimp only at cl dt
      subst cl dt
      have oldl : (s.heap.push (set0 w)).get? l = some { cls := .type "list", dict := od, data := .seq its n1, slots := osl } := Heap.get?_push_of_some _ hol
      have isl : (s.heap.push (set0 w)).IsList l its := ⟨_, oldl, rfl, n1, rfl⟩
      have x1 := F.sub_list_set; have x2 := F.sub_list_frozenset; have x3 : (Value.type "list" == Value.type "dict") = false := by decide
      unfold Builtin.«set.__init__» noKeywords Builtin.Frozenset.updateFrom
      generalize ePI : pyIter = PI
      wp_walk
      subst ePI
      have ll := Heap.lt_size hol
      have gone : ∀ b, s.heap.objs.size ≤ b → s.heap.get? b = none := fun b hb => by
        cases z : s.heap.get? b with
        | none => rfl
        | some o => exact absurd (Heap.lt_size z) (Nat.not_lt.mpr hb)
      have z1 : (s.heap.push (set0 w)).objs.size = s.heap.objs.size + 1 := Heap.size_push ..
      have out : s.heap.objs.size ∉ [(s.heap.push (set0 w)).objs.size, l] := by
        rw [z1]
        intro z
        rcases List.mem_cons.mp z with z | z
        · exact Nat.ne_of_lt (Nat.lt_succ_self _) z
        · exact Nat.ne_of_gt ll (List.mem_singleton.mp z)
      refine wpAny_pyIter_list isl (wpAny_bind (wpAny_runValue ?_))
      refine upd_turns kx ((Walks.list (by simp [hh] : A.in1.in1.in1.handled = none) (s.heap.push (set0 w)).objs.size l (by rw [z1]; exact Nat.ne_of_lt (Nat.lt_succ_of_lt ll)) its).toS) (sa := s.heap.objs.size) out ks nIt few (fun i v hv => ?_) (h0 := s.heap) live (gone _ (Nat.le_refl _)) (fun b hb => gone b (by rw [List.mem_singleton.mp hb, z1]; omega)) hr (its.size - 0) 0 _ (by omega) (Nat.zero_le _)
        ⟨⟨_, Heap.get?_push_size _ rfl, rfl, rfl⟩, isl.push _⟩ (fun b o e => Heap.get?_push_of_some _ (Heap.get?_push_of_some _ e)) ⟨[], #[], 0, _, tset0 (Heap.get?_push_of_some _ at0), ⟨fun p hp => (nomatch hp), fun p hp => by simp at hp, List.Pairwise.nil, Nat.le_refl _⟩⟩ fun s' m rs ep t mv S g k => ?_
      · have e : its.toList[i]? = some v := by rw [Array.getElem?_toList]; exact hv
        rw [hit, List.getElem?_map] at e
        cases z : ks[i]? with
        | none => rw [z] at e; cases e
        | some p => rw [z] at e; cases e; exact ⟨p, rfl, rfl⟩
      · obtain ⟨h', g', d', tk', os'⟩ := s'
        obtain rfl : g' = s.gens := mv.gens
        obtain rfl : d' = s.drawn := mv.drawn
        obtain rfl : os' = s.os := mv.os
        rw [nIt] at g
        exact (show wpAny _ _ _ _ _ _ from wpAny_pure (show wpAny _ _ (ret Value.none) _ _ _ from wpAny_pure ⟨rfl, h', tk', m, rs, ep, t, rfl, S, g, k⟩))
    · match r₂, hr₂ with
      | .error e, hr₂ => exact hr₂
      | .ok (.ret r), hr₂ =>
        obtain ⟨rfl, h', tk, m, rs, ep, t, rfl, S, g, k⟩ := hr₂
        repeat (any_goals (first | assumption | wp_step))
        exact q _ _ _ _ _ _ S g k
end
end SW

namespace SW
open PySem PySem.Spec PyProof.Rows L2

def key1 : D → Key
  | .int i => .inl i
  | .str x => .inr x
  | _ => .inl 0
def keyT : D → List Key
  | .tuple es => es.map key1
  | _ => []
theorem eqv_all : ∀ {es fs : List D}, es.all keyD = true → fs.all keyD = true → (PyData.eqvAll es fs = true ↔ es.map key1 = fs.map key1)
  | [], [], _, _ => by simp [PyData.eqvAll]
  | [], _ :: _, _, _ => by simp [PyData.eqvAll]
  | _ :: _, [], _, _ => by simp [PyData.eqvAll]
  | e :: es, f :: fs, h1, h2 => by
    rw [List.all_cons, Bool.and_eq_true] at h1 h2
    have ih := eqv_all h1.2 h2.2
    have hd : PyData.eqv e f = true ↔ key1 e = key1 f := by
      cases e <;> first | exact absurd h1.1 Bool.false_ne_true | skip
      all_goals cases f <;> first | exact absurd h2.1 Bool.false_ne_true | skip
      all_goals simp [PyData.eqv, key1]
    rw [PyData.eqvAll, Bool.and_eq_true, ih, hd, List.map_cons, List.map_cons, List.cons.injEq]
theorem eqv_key {d e : D} (h1 : hashD d = true) (h2 : hashD e = true) : PyData.eqv d e = true ↔ keyT d = keyT e := by
  cases d <;> first | exact absurd h1 Bool.false_ne_true | skip
  cases e <;> first | exact absurd h2 Bool.false_ne_true | skip
  rw [PyData.eqv]
  exact eqv_all h1 h2
theorem dedup_sub : ∀ {ds : List D} {d : D}, d ∈ dedup ds → d ∈ ds
  | [], _, h => h
  | e :: ds, d, h => by
    rcases List.mem_cons.mp h with rfl | h
    · exact List.mem_cons_self
    · exact List.mem_cons_of_mem _ (dedup_sub (List.mem_filter.mp h).1)
theorem dedup_keys : ∀ {ds : List D}, ds.all hashD = true → ((dedup ds).map keyT).Nodup ∧ ∀ k, k ∈ (dedup ds).map keyT ↔ k ∈ ds.map keyT
  | [], _ => ⟨List.Pairwise.nil, fun k => Iff.rfl⟩
  | d :: ds, h => by
    rw [List.all_cons, Bool.and_eq_true] at h
    obtain ⟨h1, h2⟩ := h
    obtain ⟨n, e⟩ := dedup_keys h2
    have hd : ∀ x ∈ dedup ds, hashD x = true := fun x hx => List.all_eq_true.mp h2 x (dedup_sub hx)
    have key : ∀ x ∈ dedup ds, (!PyData.eqv d x) = true ↔ keyT x ≠ keyT d := fun x hx => by
      have := eqv_key h1 (hd x hx)
      rw [Bool.not_eq_true', ← Bool.not_eq_true, this]
      exact ⟨fun a b => a b.symm, fun a b => a b.symm⟩
    refine ⟨?_, fun k => ?_⟩
    · show ((d :: (dedup ds).filter fun e => !PyData.eqv d e).map keyT).Nodup
      rw [List.map_cons, List.nodup_cons]
      refine ⟨fun hm => ?_, n.sublist ((List.filter_sublist).map keyT)⟩
      obtain ⟨x, hx, e'⟩ := List.mem_map.mp hm
      obtain ⟨x1, x2⟩ := List.mem_filter.mp hx
      exact (key x x1).mp x2 e'
    · show k ∈ (d :: (dedup ds).filter fun e => !PyData.eqv d e).map keyT ↔ _
      rw [List.map_cons, List.map_cons, List.mem_cons, List.mem_cons, ← e k]
      constructor
      · rintro (h | h)
        · exact .inl h
        · obtain ⟨x, hx, rfl⟩ := List.mem_map.mp h
          exact .inr (List.mem_map.mpr ⟨x, (List.mem_filter.mp hx).1, rfl⟩)
      · rintro (h | h)
        · exact .inl h
        · obtain ⟨x, hx, rfl⟩ := List.mem_map.mp h
          by_cases q : keyT x = keyT d
          · exact .inl q
          · exact .inr (List.mem_map.mpr ⟨x, List.mem_filter.mpr ⟨hx, (key x hx).mpr q⟩, rfl⟩)
theorem nodup_le {α : Type} [DecidableEq α] : ∀ {l m : List α}, l.Nodup → (∀ x ∈ l, x ∈ m) → l.length ≤ m.length
  | [], _, _, _ => Nat.zero_le _
  | x :: l, m, h, s => by
    obtain ⟨h1, h2⟩ := List.nodup_cons.mp h
    have := nodup_le (m := m.erase x) h2 fun y hy => (List.mem_erase_of_ne (fun e => h1 (by rw [← e]; exact hy))).2 (s y (List.mem_cons_of_mem _ hy))
    rw [List.length_erase_of_mem (s x List.mem_cons_self)] at this
    have hp := List.length_pos_of_mem (s x List.mem_cons_self)
    rw [List.length_cons]
    omega
section
variable {K : PySem.W.Frag}
theorem keys_rp {H : Hp} : ∀ {es : List D} {ys : List V}, RpAll K H ys es → es.all keyD = true → ys = (es.map key1).map kV
  | [], _, h, _ => by cases h; rfl
  | e :: es, _, h, h2 => by
    rw [List.all_cons, Bool.and_eq_true] at h2
    cases h with
    | cons r rs =>
      rw [List.map_cons, List.map_cons, ← keys_rp rs h2.2]
      cases e <;> first | exact absurd h2.1 Bool.false_ne_true | (cases r; rfl)
theorem key_list {H : Hp} : ∀ {ds : List D} {xs : List V}, RpAll K H xs ds → ds.all hashD = true → ∃ ks : List (Addr × List Key), xs = ks.map (fun p => V.ref p.1) ∧ ks.map (·.2) = ds.map keyT ∧ ∀ p ∈ ks, SqT K H p.1 (p.2.map kV)
  | [], _, h, _ => by cases h; exact ⟨[], rfl, rfl, fun p hp => nomatch hp⟩
  | d :: ds, _, h, h2 => by
    rw [List.all_cons, Bool.and_eq_true] at h2
    cases h with
    | cons r rs =>
      obtain ⟨ks, e1, e2, e3⟩ := key_list rs h2.2
      cases d <;> first | exact absurd h2.1 Bool.false_ne_true | skip
      rename_i es
      cases r with
      | @tup a ys _ ha hx =>
        refine ⟨(a, es.map key1) :: ks, by rw [e1]; rfl, by rw [List.map_cons, e2]; rfl, fun p hp => ?_⟩
        rcases List.mem_cons.mp hp with rfl | hp
        · show SqT K H a ((es.map key1).map kV)
          rw [← keys_rp hx h2.1]
          exact ha
        · exact e3 p hp
end
theorem refs_of : ∀ {ks : List (Addr × List Key)} {us : List Value}, Vals (ks.map fun p => V.ref p.1) us → us = ks.map fun p => Value.ref p.1
  | [], _, h => by cases h; rfl
  | _ :: _, _, h => by
    cases h with
    | cons r t => cases r; rw [refs_of t]; rfl
section
variable {X : Cx} {Φ : Phi} {C : Con} (hΦ : PhiMono Φ)
include hΦ
theorem r_lset {x : Ex} {a : Expr} {p p2 pos pos2 : Pos} (hc : X.calm = true) (hu : X.A.units + 65 < cLine) (ha : Both X Φ C x a) (hs : noStar a = true) (hg : Gl X "len") (hm : X.mg "len" = none) (hg2 : Gl X "set") (hm2 : X.mg "set" = none) :
    Both X Φ C (.b1 .lset x) (.Call (.Name "len" p) [.Call (.Name "set" p2) [a] [] pos2] [] pos) := by
  refine both_of ⟨fun pins s σ H Q I ⟨as, Hi, ρ, ok, w⟩ => ?_⟩ rfl
  have st : ∀ env, starEach [a] env = (false, eval a env) :: starEach [] env := fun env => star_cons hs
  refine Call_ (ld_blt I hg hm PySem.boot_len (PyProof.Rows.callWith_builtin1 (PyProof.Rows.args_cons ?_ rfl) rfl rfl))
  refine Call_ (ld_blt I hg2 hm2 PyProof.Rows.boot_set (PyProof.Rows.callWith_type1 (PyProof.Rows.args_cons ?_ (st _)) (st _) rfl))
  have w' : tE X.K Φ C x σ H fun v H1 => ∃ l xs ds Hi1, v = V.ref l ∧ H1 l = some (.lst xs) ∧ Same Hi1 H1 ∧ RpAll X.K Hi1 xs ds ∧ ds.all hashD = true ∧ ds.length < 64 ∧ Q (.int (dedup ds).length) H1 := by
    refine ⟨as, Hi, ρ, ok, wpE_mono hΦ x ρ (fun d q v H1 Hi1 g1 hd => ?_) w⟩
    have w1 := g1.wo ok.toWo
    cases d <;> first | exact q.elim | skip
    rename_i ds
    obtain ⟨⟨q1, q2⟩, q⟩ := q
    cases hd with
    | @lst l xs _ hl hx => exact ⟨l, xs, ds, Hi1, rfl, w1.sub _ _ hl, w1.sub, hx, q1, q2, q _ _ _ g1 (.int _)⟩
  refine thn (ha.1.run pins s σ H _ I w') fun u s1 ⟨v, H1, I1, r1, l, xs, ds, Hi1, e, hl, sb, hx, h1, h2, q⟩ => PyProof.Rows.args_nil ?_
  subst e
  cases r1
  obtain ⟨its, rv, pl, hz⟩ := I1.list (SqL.of hl)
  obtain ⟨ks, e1, e2, e3⟩ := key_list hx h1
  have kl : ks.length = ds.length := by
    have := congrArg List.length e2
    rwa [List.length_map, List.length_map] at this
  have its_eq : its = ks.map fun p => Value.ref p.1 := by
    subst e1
    exact refs_of rv
  have liv : ∀ p ∈ ks, (tupleKind (mixKind X.prog X.w)).is s1.heap p.2 p.1 := fun p hp => by
    obtain ⟨its', r', ⟨o, ho, hcl, n, hd⟩, _⟩ := I1.tuple (sqT_up sb (e3 p hp))
    exact ⟨o, its'.toArray, n, ho, hcl, hd, by simpa using items_are r'⟩
  have room : (tupleKind (mixKind X.prog X.w)).room X.A.in1.in1.in1 := by
    show X.A.units + 1 + 1 + 1 < cLine
    omega
  refine call_setK kx_tup ks (I1.ok.hd hc) pl.isList (by simpa using its_eq) liv (by omega) room fun h' tk m rs ep t S g k => ?_
  have nm : m.length = (dedup ds).length := by
    obtain ⟨n1, n2⟩ := dedup_keys h1
    have a1 : ∀ y ∈ m.map (·.2), y ∈ (dedup ds).map keyT := fun y hy => by
      obtain ⟨p, hp, rfl⟩ := List.mem_map.mp hy
      rw [n2, ← e2]
      exact List.mem_map.mpr ⟨p, g.sub p hp, rfl⟩
    have a2 : ∀ y ∈ (dedup ds).map keyT, y ∈ m.map (·.2) := fun y hy => by
      rw [n2, ← e2] at hy
      obtain ⟨p, hp, rfl⟩ := List.mem_map.mp hy
      exact g.cov p (by rw [List.take_length]; exact hp)
    have b1 := nodup_le g.nd a1
    have b2 := nodup_le n1 a2
    rw [List.length_map, List.length_map] at b1 b2
    omega
  have rn := rows_n S.rws
  obtain ⟨o, ho, hex, hd⟩ := S.obj
  have I2 : Inv X pins σ H1 { s1 with heap := h', toks := tk } := I1.kept fun b o e => k b o e
  refine PyProof.Rows.args_nil (call_len_set ho hex hd S.fits (by rw [rn]; have := g.len; omega) ⟨.int (dedup ds).length, H1, I2.tok _, ⟨_, by rw [rn, nm]⟩, q⟩)
end
end SW

namespace SW
open PySem PySem.Spec PyProof.Rows L2

theorem gl_of {X : Cx} {sc : Scope} {x : Str} (hs : X.env.scope = sc) (h : glB sc x = true) : Gl X x := by subst hs; exact glB_of h
theorem b1_in (f : B1) : (b1Name f : Str) ∈ bltNames := by cases f <;> simp [b1Name, bltNames]
theorem b2_in (f : B2) : (b2Name f : Str) ∈ bltNames := by cases f <;> simp [b2Name, bltNames]
theorem ty4_in (f : Ty4) : (ty4S f : Str) ∈ bltNames := by cases f <;> simp [ty4S, bltNames]
theorem GX.blk {c : Cfg} {N : List Str} {X : Cx} (g : GX c N X) (s : Shared) (H : Hp) (scope : Scope) (env : Env) (fp : List Addr) : GX c N (X.blk s H scope env fp) := ⟨g.N, g.nd, g.calm, g.room, g.blt, g.fns, g.src, g.con⟩
theorem chkEs_star {c : Cfg0} {N : List Str} {sc : Scope} : ∀ {xs : Exs} {l : List Expr}, chkEs c N sc xs l = true → (∀ e ∈ l, noStar e = true) ∧ lenEs xs = l.length
  | .nil, l, h => by
    cases l with
    | nil => exact ⟨fun e he => (nomatch he), rfl⟩
    | cons _ _ => exact absurd h Bool.false_ne_true
  | .cons x xs, l, h => by
    cases l with
    | nil => exact absurd h Bool.false_ne_true
    | cons e r =>
      simp only [chkEs, Bool.and_eq_true] at h
      obtain ⟨h1, h2⟩ := chkEs_star h.2
      refine ⟨fun y hy => ?_, by simp [lenEs, h2]⟩
      rcases List.mem_cons.mp hy with rfl | hy
      · exact h.1.1
      · exact h1 y hy
theorem blk_names {X : Cx} {sc scope : Scope} {s : Shared} {H : Hp} {C : Addr} {cl : List (Str × Addr)} {fp : List Addr} (hs : X.env.scope = sc) (x : Str) (h : locB scope x = true) :
    Loc (X.blk s H scope (compEnvC scope cl C X.env) fp).env.scope x ∧ ((X.blk s H scope (compEnvC scope cl C X.env) fp).fn x = true ∨ (X.blk s H scope (compEnvC scope cl C X.env) fp).env.scope.names.lookup x = some .local) := by
  subst hs
  unfold locB at h
  split at h
  · rename_i q
    have : (relS scope X.env.scope).names.lookup x = some .local := lookup_relS_keep (by decide) q
    exact ⟨.inl this, .inr this⟩
  · rename_i q
    have : (relS scope X.env.scope).names.lookup x = some .cell := lookup_relS_keep (by decide) q
    exact ⟨.inr this, .inl (by show (scope.names.lookup x == some .cell) = true; rw [q]; rfl)⟩
  · cases h
section
variable {c : Cfg} {N : List Str}
theorem gx_mono (c : Cfg) : PhiMono c.Φ := wpCall_mono c.Γ c.C c.n
theorem f_comp2 {elt : Ex} {tg : Tg} {it : It} {cond : Exs} {own : List (Str × Nat)} {sc : Scope} {e : Expr} {X : Cx}
    (hE : ∀ (sc : Scope) (e : Expr) (X : Cx), GX c N X → X.env.scope = sc → chkE c N sc elt e = true → Both X c.Φ c.C elt e)
    (hC : ∀ (sc : Scope) (l : List Expr) (X : Cx), GX c N X → X.env.scope = sc → chkCs c N sc cond l = true → PTs X l (tTs X.K c.Φ c.C cond))
    (hI : ∀ (sc : Scope) (tp : Bool) (e tg : Expr) (X : Cx), GX c N X → X.env.scope = sc → (tp = true → ∃ l k p, tg = .Tuple l k p) → chkIt c N sc it tp e = true → PI X tg e (tI X.K c.Φ c.C it))
    (gx : GX c N X) (hs : X.env.scope = sc) (h : chkE c N sc (.comp elt tg it cond own) e = true) : PE X e (tF X.K c.Φ c.C (.comp elt tg it cond own)) ∧ ∀ i y py spos, X.N[i]? = some y → Loc X.env.scope y → (X.fn y = true ∨ X.env.scope.names.lookup y = some .local) → PS X (.Assign [.Name y py] e spos) (tAsg (tF X.K c.Φ c.C (.comp elt tg it cond own)) (gName i)) := by
  unfold chkE at h
  split at h
  · rename_i el et ei ifs scope pos
    simp only [Bool.and_eq_true, decide_eq_true_eq] at h
    obtain ⟨⟨⟨⟨⟨⟨h1, h2⟩, h3⟩, h4⟩, h5⟩, h6⟩, h7⟩ := h
    have hbo : BlkOk X.N X.env.scope scope own := by rw [gx.N, hs]; exact blkOk_by h1
    have hsc : ∀ cl C, (compEnvC scope cl C X.env).scope = relS scope sc := fun cl C => by subst hs; rfl
    have hi := hI sc (isTp tg) ei et X gx hs (fun ht => by
      cases tg with
      | nm i => cases ht
      | tp l =>
        cases et <;> first | exact absurd h2 Bool.false_ne_true | exact ⟨_, _, _, rfl⟩) h5
    have hg := fun (s : Shared) (H : Hp) (C : Addr) (cl : List (Str × Addr)) (fp : List Addr) => sndG tg et (X.blk s H scope (compEnvC scope cl C X.env) fp) gx.N gx.nd gx.calm (blk_names hs) h2
    have hc' := fun (s : Shared) (H : Hp) (C : Addr) (cl : List (Str × Addr)) (fp : List Addr) => hC _ ifs (X.blk s H scope (compEnvC scope cl C X.env) fp) (gx.blk s H scope _ fp) (hsc cl C) h6
    have he' := fun (s : Shared) (H : Hp) (C : Addr) (cl : List (Str × Addr)) (fp : List Addr) => (hE _ el (X.blk s H scope (compEnvC scope cl C X.env) fp) (gx.blk s H scope _ fp) (hsc cl C) h7).1
    refine ⟨peI (pe_lc gx.calm gx.nd hi hbo hg hc' he' (noSet_fold h4)) (lcF (gx_mono c) h3), fun i y py spos h8 h9 h10 => ?_⟩
    have key : ∀ D σ H, tAsg (tF X.K c.Φ c.C (.comp elt tg it cond own)) (gName i) D σ H → tAsg (tLc (tI X.K c.Φ c.C it) (gD X.K tg) (tTs X.K c.Φ c.C cond) (tE X.K c.Φ c.C elt) (own.map (·.2))) (gName i) D σ H := fun D σ H q => lcF (gx_mono c) h3 σ H _ q
    have sw : swapsWith (.ListComp el [⟨et, ei, ifs, 0⟩] scope pos) (some (.Name y py)) spos.line X.env = pure (X.env.blockKind == .function && X.env.kindOf y == some .local && py.line == pos.line
      && !(scope.names.any fun (n, k) => n == y && (k == .local || k == .cell))) := rfl
    cases q : (X.env.blockKind == .function && X.env.kindOf y == some .local && py.line == pos.line && !(scope.names.any fun (n, k) => n == y && (k == .local || k == .cell))) with
    | false =>
      rw [q] at sw
      exact ⟨fun pins s σ H D I w => (ps_set gx.nd h8 h9 (pe_lc gx.calm gx.nd hi hbo hg hc' he' (noSet_fold h4)) sw h10).run pins s σ H D I (key D σ H w)⟩
    | true =>
      rw [q] at sw
      have hl : X.env.scope.names.lookup y = some .local := by
        simp only [Bool.and_eq_true, beq_iff_eq] at q
        exact q.1.1.2
      exact ⟨fun pins s σ H D I w => (ps_setLc gx.calm gx.nd h8 hl sw hi hbo hg hc' he' (noSet_fold h4)).run pins s σ H D I (key D σ H w)⟩
  · cases h
theorem f_comp {elt : Ex} {tg : Tg} {it : It} {cond : Exs} {own : List (Str × Nat)} {sc : Scope} {e : Expr} {X : Cx}
    (hE : ∀ (sc : Scope) (e : Expr) (X : Cx), GX c N X → X.env.scope = sc → chkE c N sc elt e = true → Both X c.Φ c.C elt e)
    (hC : ∀ (sc : Scope) (l : List Expr) (X : Cx), GX c N X → X.env.scope = sc → chkCs c N sc cond l = true → PTs X l (tTs X.K c.Φ c.C cond))
    (hI : ∀ (sc : Scope) (tp : Bool) (e tg : Expr) (X : Cx), GX c N X → X.env.scope = sc → (tp = true → ∃ l k p, tg = .Tuple l k p) → chkIt c N sc it tp e = true → PI X tg e (tI X.K c.Φ c.C it))
    (gx : GX c N X) (hs : X.env.scope = sc) (h : chkE c N sc (.comp elt tg it cond own) e = true) : PE X e (tF X.K c.Φ c.C (.comp elt tg it cond own)) := (f_comp2 hE hC hI gx hs h).1
theorem r_comp {elt : Ex} {tg : Tg} {it : It} {cond : Exs} {own : List (Str × Nat)} {sc : Scope} {e : Expr} {X : Cx}
    (hE : ∀ (sc : Scope) (e : Expr) (X : Cx), GX c N X → X.env.scope = sc → chkE c N sc elt e = true → Both X c.Φ c.C elt e)
    (hC : ∀ (sc : Scope) (l : List Expr) (X : Cx), GX c N X → X.env.scope = sc → chkCs c N sc cond l = true → PTs X l (tTs X.K c.Φ c.C cond))
    (hI : ∀ (sc : Scope) (tp : Bool) (e tg : Expr) (X : Cx), GX c N X → X.env.scope = sc → (tp = true → ∃ l k p, tg = .Tuple l k p) → chkIt c N sc it tp e = true → PI X tg e (tI X.K c.Φ c.C it))
    (gx : GX c N X) (hs : X.env.scope = sc) (h : chkE c N sc (.comp elt tg it cond own) e = true) : Both X c.Φ c.C (.comp elt tg it cond own) e :=
  both_of (peI (f_comp hE hC hI gx hs h) (tF_tE (x := .comp elt tg it cond own) (fun _ _ w => w) (gx_mono c))) (by
    unfold chkE at h
    split at h
    · rfl
    · cases h)
mutual
theorem sndE : ∀ (x : Ex) (sc : Scope) (e : Expr) (X : Cx), GX c N X → X.env.scope = sc → chkE c N sc x e = true → Both X c.Φ c.C x e
  | .var i, sc, e, X, gx, hs, h => by
    obtain ⟨x, p, rfl, h1, h2, h3⟩ := isNm_of (show isNm sc N i e = true from h)
    exact r_var (gx_mono c) (by rw [gx.N]; exact h1) (by rw [hs]; exact h2) h3
  | .glob k, sc, e, X, gx, hs, h => by
    simp only [chkE, Bool.and_eq_true] at h
    obtain ⟨p, rfl, h1, h2⟩ := isGl_of h.2
    obtain ⟨d, u, v, q1, q2, q3, q4⟩ := gx.con k (by simpa using h.1)
    exact r_con (gx_mono c) (pe_glob (gl_of hs h1) q2 q3 (okNm_of h2).1) q4 (fun ρ Q w => by unfold wpE at w; rw [q1] at w; exact w) rfl
  | .int i, sc, e, X, gx, hs, h => by
    unfold chkE at h
    split at h
    · have := of_decide_eq_true h
      subst this
      exact r_con (gx_mono c) pe_int (fun _ => .int _) (fun ρ Q w => w) rfl
    · cases h
  | .str i, sc, e, X, gx, hs, h => by
    unfold chkE at h
    split at h
    · have := of_decide_eq_true h
      subst this
      exact r_con (gx_mono c) pe_str (fun _ => .str _) (fun ρ Q w => w) rfl
    · cases h
  | .bl i, sc, e, X, gx, hs, h => by
    unfold chkE at h
    split at h
    · have := of_decide_eq_true h
      subst this
      exact r_con (gx_mono c) pe_bl (fun _ => .bl _) (fun ρ Q w => w) rfl
    · cases h
  | .non, sc, e, X, gx, hs, h => by
    unfold chkE at h
    split at h
    · exact r_con (gx_mono c) pe_non (fun _ => .non) (fun ρ Q w => w) rfl
    · cases h
  | .tup es, sc, e, X, gx, hs, h => by
    unfold chkE at h
    split at h
    · rename_i l k p
      simp only [Bool.and_eq_true, decide_eq_true_eq] at h
      exact r_tup (gx_mono c) (sndEs es sc l X gx hs h.2) h.1 fun ρ Q w => by rw [← (chkEs_star h.2).2]; exact wpEs_len (gx_mono c) es ρ w
    · cases h
  | .lst es, sc, e, X, gx, hs, h => by
    unfold chkE at h
    split at h
    · rename_i l p
      simp only [Bool.and_eq_true, decide_eq_true_eq] at h
      exact r_lst (gx_mono c) (sndEs es sc l X gx hs h.2) h.1 fun ρ Q w => by rw [← (chkEs_star h.2).2]; exact wpEs_len (gx_mono c) es ρ w
    · cases h
  | .bin op a b, sc, e, X, gx, hs, h => by
    unfold chkE at h
    split at h
    · simp only [Bool.and_eq_true, decide_eq_true_eq] at h
      obtain ⟨⟨rfl, h2⟩, h3⟩ := h
      exact r_bin (gx_mono c) (sndE a sc _ X gx hs h2) (sndE b sc _ X gx hs h3)
    · cases h
  | .neg a, sc, e, X, gx, hs, h => by
    unfold chkE at h
    split at h
    · exact r_neg (gx_mono c) (sndE a sc _ X gx hs h)
    · cases h
  | .not a, sc, e, X, gx, hs, h => by
    unfold chkE at h
    split at h
    · exact r_not (gx_mono c) (sndE a sc _ X gx hs h)
    · cases h
  | .cmp op a b, sc, e, X, gx, hs, h => by
    unfold chkE at h
    split at h
    · simp only [Bool.and_eq_true, decide_eq_true_eq] at h
      obtain ⟨⟨⟨rfl, h1⟩, h2⟩, h3⟩ := h
      exact r_cmp (gx_mono c) (room65 gx.room) (sndE a sc _ X gx hs h2) (sndE b sc _ X gx hs h3) h1
    · cases h
  | .chain op op2 a b d, sc, e, X, gx, hs, h => by
    unfold chkE at h
    split at h
    · simp only [Bool.and_eq_true, decide_eq_true_eq] at h
      obtain ⟨⟨⟨⟨⟨rfl, rfl⟩, h1⟩, h2⟩, h3⟩, h4⟩ := h
      exact r_chain (gx_mono c) (room65 gx.room) (sndE a sc _ X gx hs h2) (sndE b sc _ X gx hs h3) (sndE d sc _ X gx hs h4) h1
    · cases h
  | .bop op es, sc, e, X, gx, hs, h => by
    unfold chkE at h
    split at h
    · simp only [Bool.and_eq_true, decide_eq_true_eq] at h
      obtain ⟨rfl, h2⟩ := h
      exact r_bop (gx_mono c) (sndBs es sc _ X gx hs h2)
    · cases h
  | .ite d a b, sc, e, X, gx, hs, h => by
    unfold chkE at h
    split at h
    · simp only [Bool.and_eq_true] at h
      obtain ⟨⟨h1, h2⟩, h3⟩ := h
      exact r_ite (gx_mono c) (sndE d sc _ X gx hs h1) (sndE a sc _ X gx hs h2) (sndE b sc _ X gx hs h3)
    · cases h
  | .isi a t, sc, e, X, gx, hs, h => by
    unfold chkE at h
    split at h
    · rename_i ea et q
      obtain ⟨p, pos, rfl, g1, g2, g3, g4⟩ := unC2_of q
      simp only [Bool.and_eq_true] at h
      obtain ⟨p2, rfl, k1, k2⟩ := isGl_of h.1
      exact r_isi (gx_mono c) (sndE a sc _ X gx hs h.2) g3 (gl_of hs g1) (gx.blt _ (by simp [bltNames])) (gl_of hs k1) (gx.blt _ (ty4_in t))
    · cases h
  | .b1 f a, sc, e, X, gx, hs, h => by
    unfold chkE at h
    cases hf : isSetF f with
    | true =>
      rw [hf] at h
      dsimp only at h
      rw [Bool.and_eq_true, decide_eq_true_eq] at h
      obtain ⟨rfl, h⟩ := h
      split at h
      · rename_i e2 q
        obtain ⟨p, pos, rfl, g1, g2, g3⟩ := unC1_of q
        split at h
        · rename_i ea q2
          obtain ⟨p2, pos2, rfl, k1, k2, k3⟩ := unC1_of q2
          exact r_lset (gx_mono c) gx.calm (room65 gx.room) (sndE a sc _ X gx hs h) k3 (gl_of hs g1) (gx.blt "len" (by simp [bltNames])) (gl_of hs k1) (gx.blt "set" (by simp [bltNames]))
        · cases h
      · cases h
    | false =>
      rw [hf] at h
      dsimp only at h
      split at h
      · rename_i ea q
        obtain ⟨p, pos, rfl, g1, g2, g3⟩ := unC1_of q
        exact r_b1 (gx_mono c) gx.calm (room65 gx.room) hf (sndE a sc _ X gx hs h) g3 (gl_of hs g1) (gx.blt _ (b1_in f))
      · cases h
  | .b2 f a b, sc, e, X, gx, hs, h => by
    unfold chkE at h
    split at h
    · rename_i ea eb q
      obtain ⟨p, pos, rfl, g1, g2, g3, g4⟩ := unC2_of q
      simp only [Bool.and_eq_true] at h
      exact r_b2 (gx_mono c) gx.calm (sndE a sc _ X gx hs h.1) (sndE b sc _ X gx hs h.2) g3 g4 (gl_of hs g1) (gx.blt _ (b2_in f))
    · cases h
  | .lrng it, sc, e, X, gx, hs, h => by
    unfold chkE at h
    split at h
    · rename_i e2 q
      obtain ⟨p, pos, rfl, g1, g2, g3⟩ := unC1_of q
      have gl := gl_of hs g1
      have gm := gx.blt "list" (by simp [bltNames])
      have rm := gx.blt "range" (by simp [bltNames])
      cases it with
      | rng1 a =>
        simp only at h
        split at h
        · rename_i ea q2
          obtain ⟨p2, pos2, rfl, k1, k2, k3⟩ := unC1_of q2
          exact r_lrng1 (gx_mono c) gx.calm (sndE a sc _ X gx hs h) k3 gl gm (gl_of hs k1) rm
        · cases h
      | rng2 a b =>
        simp only at h
        split at h
        · rename_i ea eb q2
          obtain ⟨p2, pos2, rfl, k1, k2, k3, k4⟩ := unC2_of q2
          simp only [Bool.and_eq_true] at h
          exact r_lrng2 (gx_mono c) gx.calm (sndE a sc _ X gx hs h.1) (sndE b sc _ X gx hs h.2) k3 k4 gl gm (gl_of hs k1) rm
        · cases h
      | _ => exact absurd h Bool.false_ne_true
    · cases h
  | .slen i, sc, e, X, gx, hs, h => by
    unfold chkE at h
    split at h
    · rename_i ea q
      obtain ⟨p, pos, rfl, g1, g2, g3⟩ := unC1_of q
      obtain ⟨x, p2, rfl, h1, h2, h3⟩ := isNm_of h
      exact r_slen (gx_mono c) (by rw [gx.N]; exact h1) (by rw [hs]; exact h2) h3 (gl_of hs g1) (gx.blt "len" (by simp [bltNames]))
    · cases h
  | .call f es, sc, e, X, gx, hs, h => by
    unfold chkE at h
    split at h
    · rename_i g l pos
      simp only [Bool.and_eq_true] at h
      obtain ⟨⟨h1, h2⟩, h3⟩ := h
      split at h2
      · rename_i F q
        simp only [Bool.and_eq_true, decide_eq_true_eq] at h2
        obtain ⟨p, rfl, k1, k2⟩ := isGl_of h2.1
        obtain ⟨n1, n2⟩ := chkEs_star h3
        have cal := gx.fns f (by simpa using h1) F q
        rw [h2.2] at cal
        exact r_call (gx_mono c) cal gx.room (Nat.le_refl _) (gl_of hs k1) (sndEs es sc l X gx hs h3) k2 n1 n2
      · cases h2
    · cases h
  | .calls f i es, sc, e, X, gx, hs, h => by
    unfold chkE at h
    split at h
    · rename_i g s l pos
      simp only [Bool.and_eq_true] at h
      obtain ⟨⟨⟨h1, h2⟩, h4⟩, h3⟩ := h
      split at h2
      · rename_i F q
        simp only [Bool.and_eq_true, decide_eq_true_eq] at h2
        obtain ⟨p, rfl, k1, k2⟩ := isGl_of h2.1
        obtain ⟨y, p2, rfl, j1, j2, j3⟩ := isNm_of h4
        obtain ⟨n1, n2⟩ := chkEs_star h3
        have cal := gx.fns f (by simpa using h1) F q
        rw [h2.2] at cal
        exact r_calls (gx_mono c) cal gx.room (Nat.le_refl _) (gl_of hs k1) (sndEs es sc l X gx hs h3) k2 n1 n2 (by rw [gx.N]; exact j1) (by rw [hs]; exact j2) j3
      · cases h2
    · cases h
  | .ix a b, sc, e, X, gx, hs, h => by
    unfold chkE at h
    split at h
    · simp only [Bool.and_eq_true] at h
      exact r_ix (gx_mono c) (sndE a sc _ X gx hs h.1.2) (sndE b sc _ X gx hs h.2) h.1.1
    · cases h
  | .slT a b, sc, e, X, gx, hs, h => by
    unfold chkE at h
    split at h
    · simp only [Bool.and_eq_true] at h
      exact r_slT (gx_mono c) (sndE a sc _ X gx hs h.1) (sndE b sc _ X gx hs h.2)
    · cases h
  | .slF a b, sc, e, X, gx, hs, h => by
    unfold chkE at h
    split at h
    · simp only [Bool.and_eq_true] at h
      exact r_slF (gx_mono c) (sndE a sc _ X gx hs h.1) (sndE b sc _ X gx hs h.2)
    · cases h
  | .slB a b d, sc, e, X, gx, hs, h => by
    unfold chkE at h
    split at h
    · simp only [Bool.and_eq_true] at h
      exact r_slB (gx_mono c) (sndE a sc _ X gx hs h.1.1) (sndE b sc _ X gx hs h.1.2) (sndE d sc _ X gx hs h.2)
    · cases h
  | .slR a, sc, e, X, gx, hs, h => by
    unfold chkE at h
    split at h
    · rename_i ea m p p2
      simp only [Bool.and_eq_true] at h
      have hm : ∃ k p1 p2, m = .UnaryOp .USub (.Constant (.int 1) k p1) p2 := by
        have h := h.1
        unfold isM1 at h
        split at h
        · exact ⟨_, _, _, rfl⟩
        · cases h
      obtain ⟨k, q1, q2, rfl⟩ := hm
      exact r_slR (gx_mono c) (sndE a sc _ X gx hs h.2)
    · cases h
  | .sl2 a, sc, e, X, gx, hs, h => by
    unfold chkE at h
    cases h
  | .comp elt tg it cond own, sc, e, X, gx, hs, h => r_comp (fun sc e X gx hs h => sndE elt sc e X gx hs h) (fun sc l X gx hs h => sndCs cond sc l X gx hs h) (fun sc tp e tg X gx hs ht h => sndIt it sc tp e tg X gx hs ht h) gx hs h
  | .mt f a b, sc, e, X, gx, hs, h => by
    unfold chkE at h
    cases h
theorem sndEs : ∀ (xs : Exs) (sc : Scope) (l : List Expr) (X : Cx), GX c N X → X.env.scope = sc → chkEs c N sc xs l = true → PA X l (tA X.K c.Φ c.C xs)
  | .nil, sc, l, X, gx, hs, h => by
    cases l with
    | nil => exact a_nil (gx_mono c)
    | cons _ _ => exact absurd h Bool.false_ne_true
  | .cons x xs, sc, l, X, gx, hs, h => by
    cases l with
    | nil => exact absurd h Bool.false_ne_true
    | cons e r =>
      simp only [chkEs, Bool.and_eq_true] at h
      exact a_cons (gx_mono c) (sndE x sc e X gx hs h.1.2) (sndEs xs sc r X gx hs h.2) h.1.1
theorem sndBs : ∀ (xs : Exs) (sc : Scope) (l : List Expr) (X : Cx), GX c N X → X.env.scope = sc → chkBs c N sc xs l = true → BothB X c.Φ c.C xs l
  | .nil, sc, l, X, gx, hs, h => absurd h Bool.false_ne_true
  | .cons x .nil, sc, l, X, gx, hs, h => by
    cases l with
    | nil => exact absurd h Bool.false_ne_true
    | cons e r =>
      unfold chkBs at h
      rw [Bool.and_eq_true] at h
      cases r with
      | nil => exact b_one (gx_mono c) (sndE x sc e X gx hs h.1)
      | cons _ _ => exact absurd h.2 Bool.false_ne_true
  | .cons x (.cons y ys), sc, l, X, gx, hs, h => by
    cases l with
    | nil => exact absurd h Bool.false_ne_true
    | cons e r =>
      unfold chkBs at h
      rw [Bool.and_eq_true] at h
      cases r with
      | nil => exact absurd h.2 Bool.false_ne_true
      | cons e2 r2 => exact b_more (gx_mono c) (sndE x sc e X gx hs h.1) (sndBs (.cons y ys) sc (e2 :: r2) X gx hs h.2)
theorem sndCs : ∀ (xs : Exs) (sc : Scope) (l : List Expr) (X : Cx), GX c N X → X.env.scope = sc → chkCs c N sc xs l = true → PTs X l (tTs X.K c.Φ c.C xs)
  | .nil, sc, l, X, gx, hs, h => by
    cases l with
    | nil => exact s_nil (gx_mono c)
    | cons _ _ => exact absurd h Bool.false_ne_true
  | .cons x .nil, sc, l, X, gx, hs, h => by
    cases l with
    | nil => exact absurd h Bool.false_ne_true
    | cons e r =>
      cases r with
      | nil => exact s_one (gx_mono c) (sndE x sc e X gx hs h)
      | cons _ _ => exact absurd h Bool.false_ne_true
  | .cons x (.cons y ys), sc, l, X, gx, hs, h => by
    unfold chkCs at h
    cases h
theorem sndIt : ∀ (it : It) (sc : Scope) (tp : Bool) (e tg : Expr) (X : Cx), GX c N X → X.env.scope = sc → (tp = true → ∃ l k p, tg = .Tuple l k p) → chkIt c N sc it tp e = true → PI X tg e (tI X.K c.Φ c.C it)
  | .seq x, sc, tp, e, tg, X, gx, hs, ht, h => i_seq (gx_mono c) (sndE x sc e X gx hs h).1
  | .rng1 a, sc, tp, e, tg, X, gx, hs, ht, h => by
    unfold chkIt at h
    split at h
    · rename_i ea q
      obtain ⟨p, pos, rfl, g1, g2, g3⟩ := unC1_of q
      exact i_rng1 (gx_mono c) (gl_of hs g1) (gx.blt "range" (by simp [bltNames])) (sndE a sc _ X gx hs h).1 g3
    · cases h
  | .rng2 a b, sc, tp, e, tg, X, gx, hs, ht, h => by
    unfold chkIt at h
    split at h
    · rename_i ea eb q
      obtain ⟨p, pos, rfl, g1, g2, g3, g4⟩ := unC2_of q
      rw [Bool.and_eq_true] at h
      exact i_rng2 (gx_mono c) (gl_of hs g1) (gx.blt "range" (by simp [bltNames])) (sndE a sc _ X gx hs h.1).1 (sndE b sc _ X gx hs h.2).1 g3 g4
    · cases h
  | .rng3 a b d, sc, tp, e, tg, X, gx, hs, ht, h => by
    unfold chkIt at h
    split at h
    · rename_i ea eb ed q
      obtain ⟨p, pos, rfl, g1, g2, g3, g4, g5⟩ := unC3_of q
      rw [Bool.and_eq_true, Bool.and_eq_true] at h
      exact i_rng3 (gx_mono c) (gl_of hs g1) (gx.blt "range" (by simp [bltNames])) (sndE a sc _ X gx hs h.1.1).1 (sndE b sc _ X gx hs h.1.2).1 (sndE d sc _ X gx hs h.2).1 g3 g4 g5
    · cases h
  | .enum a, sc, tp, e, tg, X, gx, hs, ht, h => by
    unfold chkIt at h
    split at h
    · rename_i ea q
      obtain ⟨p, pos, rfl, g1, g2, g3⟩ := unC1_of q
      rw [Bool.and_eq_true] at h
      obtain ⟨l, k, p, rfl⟩ := ht h.1
      exact i_enum (gx_mono c) (gl_of hs g1) (gx.blt "enumerate" (by simp [bltNames])) (sndE a sc _ X gx hs h.2).1 g3
    · cases h
  | .zip a b, sc, tp, e, tg, X, gx, hs, ht, h => by
    unfold chkIt at h
    split at h
    · rename_i ea eb q
      obtain ⟨p, pos, rfl, g1, g2, g3, g4⟩ := unC2_of q
      rw [Bool.and_eq_true, Bool.and_eq_true] at h
      obtain ⟨l, k, p, rfl⟩ := ht h.1.1
      exact i_zip (gx_mono c) (gl_of hs g1) (gx.blt "zip" (by simp [bltNames])) (sndE a sc _ X gx hs h.1.2).1 (sndE b sc _ X gx hs h.2).1 g3 g4
    · cases h
end
end
end SW

namespace SW
open PySem PySem.Spec PyProof.Rows L2

/-! ### the state of a def's body: own lists too -/
def OwnAt (K : PySem.W.Frag) (as : Option Addr) (H0 Hi H : Hp) (a : Addr) (ds : List D) : Prop := H0 a = none ∧ Hi a = none ∧ as ≠ some a ∧ ∃ vs, H a = some (.lst vs) ∧ RpAll K Hi vs ds
structure YOk (K : PySem.W.Frag) (as : Option Addr) (H0 Hi H : Hp) (σ : St) (ρ : List S) : Prop extends XOk K as Hi H σ ρ where
  own : ∀ i ds, getS ρ i = .own ds → ∃ a, σ[i]? = some (some (.ref a)) ∧ OwnAt K as H0 Hi H a ds
  dis : ∀ i j ds es a, getS ρ i = .own ds → getS ρ j = .own es → σ[i]? = some (some (.ref a)) → σ[j]? = some (some (.ref a)) → i = j
theorem getS_see (b : Bool) : ∀ (ρ : List S) (i : Nat), getS (see b ρ) i = seeS b (getS ρ i)
  | [], i => by cases b <;> rfl
  | s :: l, 0 => rfl
  | s :: l, i + 1 => getS_see b l i
theorem see_len (b : Bool) (ρ : List S) : (see b ρ).length = ρ.length := by simp [see]
section
variable {K : PySem.W.Frag} {as : Option Addr} {H0 Hi0 Hi H Hi' H' : Hp} {σ : St} {ρ : List S}
theorem YOk.see (y : YOk K as H0 Hi H σ ρ) : XOk K as Hi H σ (see false ρ) :=
  { toWo := y.toWo, len := by rw [see_len]; exact y.len, slot := fun i => by
      rw [getS_see]
      have h := y.slot i
      cases e : getS ρ i with
      | no => trivial
      | own ds => trivial
      | src => rw [e] at h; exact h
      | scr ns => rw [e] at h; exact h
      | val d => rw [e] at h; exact h }
theorem scal_rp {Hi Hi' : Hp} {v : V} {d : D} (h : Rp K Hi v d) (s : scal1 d = true) : Rp K Hi' v d := by
  cases d <;> first | exact absurd s Bool.false_ne_true | skip
  all_goals cases h
  · exact .non
  · exact .bl _
  · exact .int _
  · exact .str _
open Classical in
/-- the own lists as they stand, frozen -/
theorem YOk.peek (y : YOk K as H0 Hi H σ ρ) : ∃ Hp', Same Hi Hp' ∧ XOk K as Hp' H σ (SW.see true ρ) ∧ ∀ b, Hi b = none → Hp' b ≠ none → H0 b = none := by
  let P := fun b => ∃ i ds, getS ρ i = .own ds ∧ σ[i]? = some (some (.ref b))
  let Hp' : Hp := fun b => if P b then H b else Hi b
  have hP : ∀ b, P b → Hi b = none ∧ H0 b = none ∧ as ≠ some b := fun b ⟨i, ds, h1, h2⟩ => by
    obtain ⟨a, h3, h4, h5, h6, _⟩ := y.own i ds h1
    rw [h2] at h3
    cases h3
    exact ⟨h5, h4, h6⟩
  have s1 : Same Hi Hp' := fun b o h => by
    show (if P b then H b else Hi b) = some o
    by_cases e : P b
    · rw [if_pos e]; exact y.sub _ _ h
    · rw [if_neg e]; exact h
  refine ⟨Hp', s1, { toWo := ⟨fun b o h => ?_, fun a h => ?_⟩, len := by rw [see_len]; exact y.len, slot := fun i => ?_ }, fun b h1 h2 => ?_⟩
  · have h : (if P b then H b else Hi b) = some o := h
    by_cases e : P b
    · rw [if_pos e] at h; exact h
    · rw [if_neg e] at h; exact y.sub _ _ h
  · refine ⟨?_, (y.src a h).2⟩
    show (if P a then H a else Hi a) = none
    rw [if_neg fun e => (hP a e).2.2 h]
    exact (y.src a h).1
  · rw [getS_see]
    have h := y.slot i
    cases e : getS ρ i with
    | no => trivial
    | src => rw [e] at h; exact h
    | scr ns => rw [e] at h; obtain ⟨a, h1, h2⟩ := h; exact ⟨a, h1, s1.seq h2⟩
    | val d => rw [e] at h; obtain ⟨v, h1, h2⟩ := h; exact ⟨v, h1, dp_up s1 _ _ h2⟩
    | own ds =>
      obtain ⟨a, h1, h2, h3, h4, vs, h5, h6⟩ := y.own i ds e
      refine ⟨.ref a, h1, .lst (xs := vs) ?_ (dps_up s1 _ _ h6)⟩
      show (if P a then H a else Hi a) = _
      rw [if_pos ⟨i, ds, e, h1⟩, h5]
  · by_cases e : P b
    · exact (hP b e).2.1
    · exact absurd (show (if P b then H b else Hi b) = none by rw [if_neg e]; exact h1) h2
theorem Go.unpeek {Hp' Hp2 H2 : Hp} (w : Wo as Hi H) (s : Same Hi Hp') (g : Go as Hp' H Hp2 H2) : Go as Hi H Hi H2 :=
  ⟨Same.refl _, s.trans (g.imm.trans g.sub), g.keep, fun b _ h => h, g.src⟩
theorem Go.peek {Hp' : Hp} (g : Go as Hi0 H0 Hi H) (s : Same Hi Hp') (x : Wo as Hp' H) (o : ∀ b, Hi b = none → Hp' b ≠ none → H0 b = none) : Go as Hi0 H0 Hp' H :=
  ⟨g.imm.trans s, x.sub, g.keep, fun b h1 h2 => by
    cases e : Hp' b with
    | none => rfl
    | some _ => exact absurd (o b (g.out b h1 h2) (by rw [e]; exact fun z => nomatch z)) h1, g.src⟩
theorem OwnAt.go {a : Addr} {ds : List D} (h : OwnAt K as H0 Hi H a ds) (g : Go as Hi H Hi' H') : OwnAt K as H0 Hi' H' a ds := by
  obtain ⟨h2, h3, h4, vs, h5, h6⟩ := h
  exact ⟨h2, g.out a (by rw [h5]; exact fun z => nomatch z) h3, h4, vs, g.keep a _ h5 h4, dps_up g.imm _ _ h6⟩
theorem YOk.go (y : YOk K as H0 Hi H σ ρ) (g : Go as Hi H Hi' H') : YOk K as H0 Hi' H' σ ρ :=
  { toXOk := y.toXOk.go g, own := fun i ds e => let ⟨a, h1, h2⟩ := y.own i ds e; ⟨a, h1, h2.go g⟩, dis := y.dis }
theorem YOk.set (y : YOk K as H0 Hi H σ ρ) {v : V} {d : D} (i : Nat) (h : Rp K Hi v d) : YOk K as H0 Hi H (σ.set i (some v)) (setS ρ i (.val d)) := by
  have ne : ∀ j ds, getS (setS ρ i (.val d)) j = .own ds → j ≠ i ∧ getS ρ j = .own ds ∧ (σ.set i (some v))[j]? = σ[j]? := fun j ds e => by
    by_cases hj : j = i
    · subst hj
      by_cases hl : j < ρ.length
      · rw [getS_set hl] at e; cases e
      · rw [getS_out (by rw [setS_len]; omega)] at e; cases e
    · rw [getS_ne hj] at e
      exact ⟨hj, e, List.getElem?_set_ne (Ne.symm hj)⟩
  refine { toXOk := y.toXOk.set i h, own := fun j ds e => ?_, dis := fun j k ds es a e1 e2 e3 e4 => ?_ }
  · obtain ⟨n1, n2, n3⟩ := ne j ds e
    rw [n3]
    exact y.own j ds n2
  · obtain ⟨_, n2, n3⟩ := ne j ds e1
    obtain ⟨_, m2, m3⟩ := ne k es e2
    rw [n3] at e3
    rw [m3] at e4
    exact y.dis j k ds es a n2 m2 e3 e4
theorem XOk.setN (x : XOk K as Hi H σ ρ) (i : Nat) (v : V) (s : S) (h : i < σ.length → XSlot K as Hi (σ.set i (some v)) i s) : XOk K as Hi H (σ.set i (some v)) (setS ρ i s) := by
  refine { toWo := x.toWo, len := ?_, slot := fun j => ?_ }
  · rw [List.length_set, setS_len]; exact x.len
  · by_cases e : j = i
    · subst e
      by_cases hl : j < ρ.length
      · rw [getS_set hl]; exact h (Nat.lt_of_lt_of_le hl x.len)
      · rw [getS_out (by rw [setS_len]; omega)]; trivial
    · rw [getS_ne e]
      have h := x.slot j
      have en : (σ.set i (some v))[j]? = σ[j]? := List.getElem?_set_ne (Ne.symm e)
      cases e : getS ρ j with
      | no => trivial
      | own ds => trivial
      | src => rw [e] at h; obtain ⟨a, h1, h2⟩ := h; exact ⟨a, h1, by rw [en]; exact h2⟩
      | scr ns => rw [e] at h; obtain ⟨a, h1, h2⟩ := h; exact ⟨a, by rw [en]; exact h1, h2⟩
      | val d => rw [e] at h; obtain ⟨v, h1, h2⟩ := h; exact ⟨v, by rw [en]; exact h1, h2⟩
/-- an own list, new in slot i -/
theorem YOk.setO (y : YOk K as H0 Hi H σ ρ) {p : Addr} {ds : List D} (i : Nat) (h : OwnAt K as H0 Hi H p ds) (new : ∀ j es, getS ρ j = .own es → σ[j]? ≠ some (some (.ref p))) : YOk K as H0 Hi H (σ.set i (some (.ref p))) (setS ρ i (.own ds)) := by
  have xs : XOk K as Hi H (σ.set i (some (.ref p))) (setS ρ i (.own ds)) := y.toXOk.setN i _ _ fun _ => trivial
  have ne : ∀ j es, getS (setS ρ i (.own ds)) j = .own es → (j = i ∧ es = ds ∧ (σ.set i (some (V.ref p)))[j]? = some (some (.ref p))) ∨ (j ≠ i ∧ getS ρ j = .own es ∧ (σ.set i (some (V.ref p)))[j]? = σ[j]?) := fun j es e => by
    by_cases hj : j = i
    · subst hj
      by_cases hl : j < ρ.length
      · rw [getS_set hl] at e
        cases e
        exact .inl ⟨rfl, rfl, List.getElem?_set_self (Nat.lt_of_lt_of_le hl y.len)⟩
      · rw [getS_out (by rw [setS_len]; omega)] at e; cases e
    · rw [getS_ne hj] at e
      exact .inr ⟨hj, e, List.getElem?_set_ne (Ne.symm hj)⟩
  refine { toXOk := xs, own := fun j es e => ?_, dis := fun j k ds1 es1 a e1 e2 e3 e4 => ?_ }
  · rcases ne j es e with ⟨rfl, rfl, q⟩ | ⟨n1, n2, n3⟩
    · exact ⟨p, q, h⟩
    · rw [n3]; exact y.own j es n2
  · rcases ne j ds1 e1 with ⟨rfl, rfl, q⟩ | ⟨n1, n2, n3⟩ <;> rcases ne k es1 e2 with ⟨rfl, rfl, q'⟩ | ⟨m1, m2, m3⟩
    · rfl
    · rw [q] at e3; cases e3
      rw [m3] at e4
      exact absurd e4 (new k es1 m2)
    · rw [q'] at e4; cases e4
      rw [n3] at e3
      exact absurd e3 (new j ds1 n2)
    · rw [n3] at e3; rw [m3] at e4
      exact y.dis j k ds1 es1 a n2 m2 e3 e4
/-- an own list changed -/
theorem YOk.upd (y : YOk K as H0 Hi H σ ρ) {a : Addr} {i : Nat} {ds es : List D} {vs : List V} (e : getS ρ i = .own ds) (ea : σ[i]? = some (some (.ref a))) (h : RpAll K Hi vs es) : YOk K as H0 Hi (L2.upd H a (.lst vs)) σ (setS ρ i (.own es)) := by
  obtain ⟨a', h1, h2, h3, h4, ws, h5, h6⟩ := y.own i ds e
  rw [ea] at h1
  cases h1
  have hl : i < ρ.length := Nat.lt_of_not_le fun q => by rw [getS_out q] at e; cases e
  refine { toWo := ⟨fun b o q => ?_, fun b q => ?_⟩, len := by rw [setS_len]; exact y.len, slot := fun j => ?_, own := fun j fs q => ?_, dis := fun j k fs gs b q1 q2 q3 q4 => ?_ }
  · rw [upd_ne (ne_of_none q h3)]; exact y.sub _ _ q
  · obtain ⟨q1, x, y', q2, q3⟩ := y.src b q
    exact ⟨q1, x, y', by rw [upd_ne (fun z => h4 (by rw [← z]; exact q))]; exact q2, q3⟩
  · by_cases ej : j = i
    · subst ej; rw [getS_set hl]; trivial
    · rw [getS_ne ej]; exact y.slot j
  · by_cases ej : j = i
    · subst ej
      rw [getS_set hl] at q
      cases q
      exact ⟨a, ea, h2, h3, h4, vs, upd_same, h⟩
    · rw [getS_ne ej] at q
      obtain ⟨b, k1, k2, k3, k4, us, k5, k6⟩ := y.own j fs q
      have hb : b ≠ a := fun z => by subst z; exact ej (y.dis j i fs ds b q e k1 ea)
      exact ⟨b, k1, k2, k3, k4, us, by rw [upd_ne hb]; exact k5, k6⟩
  · have q1' : ∃ fs, getS ρ j = .own fs := by
      by_cases ej : j = i
      · subst ej; exact ⟨ds, e⟩
      · rw [getS_ne ej] at q1; exact ⟨fs, q1⟩
    have q2' : ∃ fs, getS ρ k = .own fs := by
      by_cases ej : k = i
      · subst ej; exact ⟨ds, e⟩
      · rw [getS_ne ej] at q2; exact ⟨gs, q2⟩
    obtain ⟨f1, q1'⟩ := q1'
    obtain ⟨f2, q2'⟩ := q2'
    exact y.dis j k f1 f2 b q1' q2' q3 q4
/-- an own list, from here on never changed -/
theorem YOk.frz (y : YOk K as H0 Hi H σ ρ) (g : Go as Hi0 H0 Hi H) {i : Nat} {ds : List D} (e : getS ρ i = .own ds) : ∃ Hi', Same Hi Hi' ∧ Go as Hi0 H0 Hi' H ∧ YOk K as H0 Hi' H σ (setS ρ i (.val (.list ds))) := by
  obtain ⟨a, h1, h2, h3, h4, vs, h5, h6⟩ := y.own i ds e
  have hl : i < ρ.length := Nat.lt_of_not_le fun q => by rw [getS_out q] at e; cases e
  have w' := Go.freeze y.toWo h5 h3 h4
  have s : Same Hi (L2.upd Hi a (.lst vs)) := fun b o h => by rw [upd_ne (ne_of_none h h3)]; exact h
  refine ⟨L2.upd Hi a (.lst vs), s, ⟨g.imm.trans s, w'.sub, g.keep, fun b q1 q2 => ?_, g.src⟩, { toWo := w', len := by rw [setS_len]; exact y.len, slot := fun j => ?_, own := fun j fs q => ?_, dis := fun j k fs gs b q1 q2 q3 q4 => ?_ }⟩
  · have : b ≠ a := fun z => by subst z; exact q1 h2
    rw [upd_ne this]
    exact g.out b q1 q2
  · by_cases ej : j = i
    · subst ej
      rw [getS_set hl]
      exact ⟨.ref a, h1, .lst upd_same (dps_up s _ _ h6)⟩
    · rw [getS_ne ej]
      have h := y.slot j
      cases q : getS ρ j with
      | no => trivial
      | own ds => trivial
      | src => rw [q] at h; exact h
      | scr ns => rw [q] at h; obtain ⟨b, k1, k2⟩ := h; exact ⟨b, k1, s.seq k2⟩
      | val d => rw [q] at h; obtain ⟨v, k1, k2⟩ := h; exact ⟨v, k1, dp_up s _ _ k2⟩
  · by_cases ej : j = i
    · subst ej; rw [getS_set hl] at q; cases q
    · rw [getS_ne ej] at q
      obtain ⟨b, k1, k2, k3, k4, us, k5, k6⟩ := y.own j fs q
      have hb : b ≠ a := fun z => by subst z; exact ej (y.dis j i fs ds b q e k1 h1)
      exact ⟨b, k1, k2, by rw [upd_ne hb]; exact k3, k4, us, k5, dps_up s _ _ k6⟩
  · by_cases ej : j = i
    · subst ej; rw [getS_set hl] at q1; cases q1
    · by_cases ek : k = i
      · subst ek; rw [getS_set hl] at q2; cases q2
      · rw [getS_ne ej] at q1; rw [getS_ne ek] at q2
        exact y.dis j k fs gs b q1 q2 q3 q4
end
mutual
theorem wpBind_own : ∀ (t : Tg) (d : D) (ρ : List S) {Q : List S → Prop}, wpBind t d ρ Q → wpBind t d ρ fun ρ' => Q ρ' ∧ ∀ i ds, getS ρ' i = .own ds → getS ρ i = .own ds ∧ i ∉ tgIx t
  | .nm i, d, ρ, Q, h => ⟨h, fun j ds e => by
      by_cases hj : j = i
      · subst hj
        by_cases hl : j < ρ.length
        · rw [getS_set hl] at e; cases e
        · rw [getS_out (by rw [setS_len]; omega)] at e; cases e
      · rw [getS_ne hj] at e
        exact ⟨e, by simpa [tgIx] using hj⟩⟩
  | .tp l, d, ρ, Q, h => by
    cases d <;> first | exact h.elim | exact wpBinds_own l _ ρ h
theorem wpBinds_own : ∀ (t : Tgs) (d : List D) (ρ : List S) {Q : List S → Prop}, wpBinds t d ρ Q → wpBinds t d ρ fun ρ' => Q ρ' ∧ ∀ i ds, getS ρ' i = .own ds → getS ρ i = .own ds ∧ i ∉ tgsIx t
  | .nil, d, ρ, Q, h => by
    cases d <;> first | exact h.elim | exact ⟨h, fun i ds e => ⟨e, by simp [tgsIx]⟩⟩
  | .cons t l, d, ρ, Q, h => by
    cases d with
    | nil => exact h.elim
    | cons d r =>
      refine wpBind_mono (fun ρ1 q => ?_) t d ρ (wpBind_own t d ρ h)
      refine wpBinds_mono (fun ρ2 q2 => ?_) l r ρ1 (wpBinds_own l r ρ1 q.1)
      refine ⟨q2.1, fun i ds e => ?_⟩
      obtain ⟨e1, n1⟩ := q2.2 i ds e
      obtain ⟨e2, n2⟩ := q.2 i ds e1
      exact ⟨e2, by simp [tgsIx, n1, n2]⟩
end
/-- targets bound, own lists kept -/
theorem bind_y {K : PySem.W.Frag} {as : Option Addr} {H0 Hi H : Hp} {σ : St} {ρ : List S} {v : V} {d : D} {t : Tg} {Q : List S → Prop} {R : St → Hp → Prop} (y : YOk K as H0 Hi H σ ρ) (hv : Rp K Hi v d) (w : wpBind t d ρ Q)
    (h : ∀ ρ' σ', Q ρ' → YOk K as H0 Hi H σ' ρ' → R σ' H) : gD K t v σ H R := by
  refine ⟨as, Hi, ρ, d, y.toXOk, hv, wpBind_mono (fun ρ' q σ' ok same l1 l2 => ?_) t d ρ (wpBind_own t d ρ w)⟩
  refine h ρ' σ' q.1 { toXOk := ok, own := fun i ds e => ?_, dis := fun i j ds es a e1 e2 e3 e4 => ?_ }
  · obtain ⟨e1, n⟩ := q.2 i ds e
    rw [(same i n).1]
    exact y.own i ds e1
  · obtain ⟨k1, n1⟩ := q.2 i ds e1
    obtain ⟨k2, n2⟩ := q.2 j es e2
    rw [(same i n1).1] at e3
    rw [(same j n2).1] at e4
    exact y.dis i j ds es a k1 k2 e3 e4
end SW

namespace SW
open PySem PySem.Spec PyProof.Rows L2

/-! ### a, b = x, y: names set one after another -/
def putA (σ : St) : List Nat → List V → St
  | i :: l, v :: r => putA (σ.set i (some v)) l r
  | _, _ => σ
def tPr (l : List Nat) (ta : TA) : TS := fun D σ H => ta σ H fun vs H1 => vs.length = l.length ∧ D.nx (putA σ l vs) H1 ∧ ∀ p, H1 p = none → D.nx (putA σ l vs) (L2.upd H1 p (.tup vs))
/-- plain names at these places -/
def chkNs (sc : Scope) (N : List Str) : List Nat → List Expr → Bool
  | [], es => match es with | [] => true | _ => false
  | i :: l, es => match es with
    | .Name x _ :: r => decide (N[i]? = some x) && locB sc x && chkNs sc N l r
    | _ => false
def gNs (l : List Nat) : TGs := fun vs σ H Q => vs.length = l.length ∧ Q (putA σ l vs) H
structure SX (c : Cfg) (N : List Str) (X : Cx) : Prop extends GX c N X where
  po : PassesOwn (model X.prog X.w) X.A X.env X.xe
  nm : ∀ x, locB X.env.scope x = true → X.fn x = true ∨ X.env.scope.names.lookup x = some .local
theorem chkNs_star {sc : Scope} {N : List Str} : ∀ {l : List Nat} {es : List Expr}, chkNs sc N l es = true → (∀ e ∈ es, noStar e = true) ∧ es.length = l.length
  | [], es, h => by
    cases es with
    | nil => exact ⟨fun e he => (nomatch he), rfl⟩
    | cons _ _ => exact absurd h Bool.false_ne_true
  | i :: l, es, h => by
    cases es with
    | nil => exact absurd h Bool.false_ne_true
    | cons e r =>
      cases e <;> first | exact absurd h Bool.false_ne_true | skip
      simp only [chkNs, Bool.and_eq_true] at h
      obtain ⟨h1, h2⟩ := chkNs_star h.2
      refine ⟨fun y hy => ?_, by simp [h2]⟩
      rcases List.mem_cons.mp hy with rfl | hy
      · rfl
      · exact h1 y hy
theorem pgs_ns {X : Cx} {sc : Scope} {N : List Str} (hN : X.N = N) (nd : X.N.Nodup) (hs : X.env.scope = sc) (nm : ∀ x, locB X.env.scope x = true → X.fn x = true ∨ X.env.scope.names.lookup x = some .local) :
    ∀ {l : List Nat} {es : List Expr}, chkNs sc N l es = true → PGs X es (gNs l)
  | [], es, h => by
    cases es with
    | cons _ _ => exact absurd h Bool.false_ne_true
    | nil => exact ⟨fun pins s σ H vs us Q I r ⟨q1, q2⟩ => pgs_nil.run pins s σ H vs us Q I r ⟨List.length_eq_zero_iff.mp q1, by cases vs <;> exact q2⟩⟩
  | i :: l, es, h => by
    cases es with
    | nil => exact absurd h Bool.false_ne_true
    | cons e r =>
      cases e <;> first | exact absurd h Bool.false_ne_true | skip
      rename_i x p
      simp only [chkNs, Bool.and_eq_true, decide_eq_true_eq] at h
      obtain ⟨⟨h1, h2⟩, h3⟩ := h
      refine ⟨fun pins s σ H vs us Q I rr ⟨q1, q2⟩ => (pgs_cons (pg_name (i := i) (pos := p) nd (by rw [hN]; exact h1) (locB_of (by rw [hs]; exact h2)) (nm x (by rw [hs]; exact h2))) (pgs_ns hN nd hs nm h3) (by rw [asg_cons rfl]; rfl)).run pins s σ H vs us Q I rr ?_⟩
      cases vs with
      | nil => cases q1
      | cons v vs => exact ⟨v, vs, rfl, by simpa using q1, q2⟩
def TaMono (ta : TA) : Prop := ∀ (σ : St) (H : Hp) (Q Q' : List V → Hp → Prop), (∀ vs H1, Q vs H1 → Q' vs H1) → ta σ H Q → ta σ H Q'
/-- in their order -/
theorem par_plain {X : Cx} {l : List Nat} {ts es : List Expr} {k k2 : Nat} {p p2 pos : Pos} {ta : TA} (hc : X.calm = true) (h : PGs X ts (gNs l)) (hst : ∀ e ∈ ts, noStar e = true) (hl : ts.length = l.length) (hk : ts.length ≤ 1000) (ha : PA X es ta) (hm : TaMono ta)
    (hw : swappedStores [.Tuple ts k p] (.Tuple es k2 p2) X.env = pure none) : PS X (.Assign [.Tuple ts k p] (.Tuple es k2 p2) pos) (tPr l ta) := by
  obtain ⟨a1, a2⟩ := asg_len (env := X.env) hst
  refine ⟨fun pins s σ H D I hw' => (ps_asg (pe_tup ha) (pg_tup (n := ts.length) hc h a1 a2) rfl hw).run pins s σ H D I ?_⟩
  refine (?_ : tTup ta σ H fun x H1 => gTup X.K ts.length (gNs l) x σ H1 D.nx)
  have key : ∀ vs H1, (vs.length = l.length ∧ D.nx (putA σ l vs) H1 ∧ ∀ p, H1 p = none → D.nx (putA σ l vs) (L2.upd H1 p (.tup vs))) → (vs.length ≤ sizeLine ∧ ∀ p, H1 p = none → gTup X.K ts.length (gNs l) (.ref p) σ (L2.upd H1 p (.tup vs)) D.nx) := fun vs H1 ⟨q1, q2, q3⟩ =>
    ⟨by rw [sizeLine_eq]; omega, fun p hp => ⟨p, vs, rfl, .inl (.inl upd_same), by omega, q1, q3 p hp⟩⟩
  exact hm σ H _ _ key hw'

/-! ### which of the two orders -/
def parOk (sc : Scope) (ts es : List Expr) : Bool :=
  es.all (foldedForSure 8) || !(es.all (constantsAlone 8))
theorem swap_cases {env : Env} {ts es : List Expr} {k k2 : Nat} {p p2 : Pos} (hok : parOk env.scope ts es = true) :
    swappedStores [.Tuple ts k p] (.Tuple es k2 p2) env = pure none ∨
    ∃ names, swappedStores [.Tuple ts k p] (.Tuple es k2 p2) env = pure (some names) ∧ (ts.length = 2 ∨ ts.length = 3) ∧ names.length = ts.length ∧ names.eraseDups.length = names.length ∧
      names = ts.filterMap fun e => match e with
        | .Name id pos => if env.kindOf id == some .local && pos.line == (ts.head?.map (·.pos.line)).getD 0 then some id else none
        | _ => none := by
  unfold swappedStores
  dsimp only
  split
  · exact .inl rfl
  · rename_i q1
    split
    · exact .inl rfl
    · split
      · exact .inl rfl
      · rename_i q3
        split
        · exact .inl rfl
        · rename_i q4
          have q5 : es.all (constantsAlone 8) = false := by
            unfold parOk at hok
            cases e : es.all (constantsAlone 8)
            · rfl
            · rw [e] at hok; simp at hok; simp_all
          rw [q5]
          refine .inr ⟨_, rfl, ?_, ?_, ?_, rfl⟩
          · simp at q1; omega
          · simp only [Bool.or_eq_true, bne_iff_ne, ne_eq, not_or, Decidable.not_not] at q3; exact q3.1
          · simp only [Bool.or_eq_true, bne_iff_ne, ne_eq, not_or, Decidable.not_not] at q3; exact q3.2
theorem nm_one {env : Env} {x : Str} {p : Pos} {n : Nat} {r : Option Str} (h : (match (Expr.Name x p : Expr) with
        | .Name id pos => if env.kindOf id == some .local && pos.line == n then some id else none
        | _ => none) = r) : r = none ∨ (r = some x ∧ env.scope.names.lookup x = some .local) := by
  dsimp only at h
  split at h
  · rename_i q
    simp only [Bool.and_eq_true, beq_iff_eq] at q
    exact .inr ⟨h.symm, q.1⟩
  · exact .inl h.symm
section
variable {X : Cx} {N : List Str} {sc : Scope} {ta : TA}
theorem ps_par2 {i j : Nat} {ts es : List Expr} {k k2 : Nat} {p p2 pos : Pos} (hc : X.calm = true) (hN : X.N = N) (nd : X.N.Nodup) (hs : X.env.scope = sc) (h : chkNs sc N [i, j] ts = true) (ha : PA X es ta) (hm : TaMono ta) (hl : es.length = 2) {names : List Str}
    (hw : swappedStores [.Tuple ts k p] (.Tuple es k2 p2) X.env = pure (some names)) (hn : names.length = ts.length) (hd : names.eraseDups.length = names.length)
    (he : names = ts.filterMap fun e => match e with
        | .Name id pos => if X.env.kindOf id == some .local && pos.line == (ts.head?.map (·.pos.line)).getD 0 then some id else none
        | _ => none) : PS X (.Assign [.Tuple ts k p] (.Tuple es k2 p2) pos) (tPr [i, j] ta) := by
  cases ts with
  | nil => exact absurd h Bool.false_ne_true
  | cons e1 r =>
    cases e1 <;> first | exact absurd h Bool.false_ne_true | skip
    rename_i x px
    simp only [chkNs, Bool.and_eq_true, decide_eq_true_eq] at h
    obtain ⟨⟨h1, h2⟩, h⟩ := h
    cases r with
    | nil => exact absurd h Bool.false_ne_true
    | cons e2 r =>
      cases e2 <;> first | exact absurd h Bool.false_ne_true | skip
      rename_i y py
      simp only [Bool.and_eq_true, decide_eq_true_eq] at h
      obtain ⟨⟨h3, h4⟩, h⟩ := h
      cases r with
      | cons _ _ => exact absurd h Bool.false_ne_true
      | nil =>
        rw [List.filterMap_cons, List.filterMap_cons, List.filterMap_nil] at he
        have key : names = [x, y] ∧ X.env.scope.names.lookup x = some .local ∧ X.env.scope.names.lookup y = some .local := by
          subst he
          split at hn
          · split at hn <;> simp at hn
          · rename_i u e1
            split at hn
            · simp at hn
            · rename_i u2 e2
              rcases nm_one e1 with z | ⟨z, l1⟩
              · cases z
              · rcases nm_one e2 with z2 | ⟨z2, l2⟩
                · cases z2
                · cases z; cases z2
                  exact ⟨rfl, l1, l2⟩
        obtain ⟨rfl, l1, l2⟩ := key
        have hxy : x ≠ y := fun e => by
          subst e
          have : ([x, x] : List Str).eraseDups = [x] := by simp [List.eraseDups_cons]
          rw [this] at hd
          simp at hd
        have hij : i ≠ j := fun e => by
          subst e
          rw [h1] at h3
          exact hxy (Option.some.inj h3)
        match es, hl with
        | [a, b], _ =>
          refine ⟨fun pins s σ H D I hw' => (ps_par hc nd (by rw [hN]; exact h1) (by rw [hN]; exact h3) hij l1 l2 ha hw rfl).run pins s σ H D I (hm σ H _ _ (fun vs H1 ⟨q1, q2, q3⟩ => ?_) hw')⟩
          match vs, q1 with
          | [v, w], _ => exact ⟨v, w, rfl, q2⟩
theorem ps_par3' {i j m : Nat} {ts es : List Expr} {k k2 : Nat} {p p2 pos : Pos} (hc : X.calm = true) (hN : X.N = N) (nd : X.N.Nodup) (hs : X.env.scope = sc) (h : chkNs sc N [i, j, m] ts = true) (ha : PA X es ta) (hm : TaMono ta) (hl : es.length = 3) {names : List Str}
    (hw : swappedStores [.Tuple ts k p] (.Tuple es k2 p2) X.env = pure (some names)) (hn : names.length = ts.length) (hd : names.eraseDups.length = names.length)
    (he : names = ts.filterMap fun e => match e with
        | .Name id pos => if X.env.kindOf id == some .local && pos.line == (ts.head?.map (·.pos.line)).getD 0 then some id else none
        | _ => none) : PS X (.Assign [.Tuple ts k p] (.Tuple es k2 p2) pos) (tPr [i, j, m] ta) := by
  cases ts with
  | nil => exact absurd h Bool.false_ne_true
  | cons e1 r =>
    cases e1 <;> first | exact absurd h Bool.false_ne_true | skip
    rename_i x px
    simp only [chkNs, Bool.and_eq_true, decide_eq_true_eq] at h
    obtain ⟨⟨h1, h2⟩, h⟩ := h
    cases r with
    | nil => exact absurd h Bool.false_ne_true
    | cons e2 r =>
      cases e2 <;> first | exact absurd h Bool.false_ne_true | skip
      rename_i y py
      simp only [Bool.and_eq_true, decide_eq_true_eq] at h
      obtain ⟨⟨h3, h4⟩, h⟩ := h
      cases r with
      | nil => exact absurd h Bool.false_ne_true
      | cons e3 r =>
        cases e3 <;> first | exact absurd h Bool.false_ne_true | skip
        rename_i z pz
        simp only [Bool.and_eq_true, decide_eq_true_eq] at h
        obtain ⟨⟨h5, h6⟩, h⟩ := h
        cases r with
        | cons _ _ => exact absurd h Bool.false_ne_true
        | nil =>
          rw [List.filterMap_cons, List.filterMap_cons, List.filterMap_cons, List.filterMap_nil] at he
          have key : names = [x, y, z] ∧ X.env.scope.names.lookup x = some .local ∧ X.env.scope.names.lookup y = some .local ∧ X.env.scope.names.lookup z = some .local := by
            subst he
            split at hn
            · split at hn
              · split at hn <;> simp at hn
              · split at hn <;> simp at hn
            · rename_i u e1
              split at hn
              · split at hn <;> simp at hn
              · rename_i u2 e2
                split at hn
                · simp at hn
                · rename_i u3 e3
                  rcases nm_one e1 with z | ⟨z, l1⟩
                  · cases z
                  · rcases nm_one e2 with z2 | ⟨z2, l2⟩
                    · cases z2
                    · rcases nm_one e3 with z3 | ⟨z3, l3⟩
                      · cases z3
                      · cases z; cases z2; cases z3
                        exact ⟨rfl, l1, l2, l3⟩
          obtain ⟨rfl, l1, l2, l3⟩ := key
          have nd3 : x ≠ y ∧ x ≠ z ∧ y ≠ z := by
            by_cases q1 : x = y
            · exfalso
              subst q1
              by_cases q2 : x = z
              · subst q2
                simp [List.eraseDups_cons] at hd
              · simp [List.eraseDups_cons, q2, Ne.symm q2] at hd
            · by_cases q2 : x = z
              · exfalso
                subst q2
                simp [List.eraseDups_cons, q1, Ne.symm q1] at hd
              · by_cases q3 : y = z
                · exfalso
                  subst q3
                  simp [List.eraseDups_cons, q1, Ne.symm q1] at hd
                · exact ⟨q1, q2, q3⟩
          obtain ⟨n1, n2, n3⟩ := nd3
          have hij : i ≠ j := fun e => by subst e; rw [h1] at h3; exact n1 (Option.some.inj h3)
          have him : i ≠ m := fun e => by subst e; rw [h1] at h5; exact n2 (Option.some.inj h5)
          have hjm : j ≠ m := fun e => by subst e; rw [h3] at h5; exact n3 (Option.some.inj h5)
          match es, hl with
          | [a, b, d], _ =>
            refine ⟨fun pins s σ H D I hw' => (ps_par3 hc nd (by rw [hN]; exact h1) (by rw [hN]; exact h3) (by rw [hN]; exact h5) hij him hjm l1 l2 l3 ha hw rfl).run pins s σ H D I (hm σ H _ _ (fun vs H1 ⟨q1, q2, q3⟩ => ?_) hw')⟩
            match vs, q1 with
            | [v, w, u], _ => exact ⟨v, w, u, rfl, q2⟩
/-- a, b, .. = x, y, .. in either order -/
theorem ps_parA {l : List Nat} {ts es : List Expr} {k k2 : Nat} {p p2 pos : Pos} (hc : X.calm = true) (hN : X.N = N) (nd : X.N.Nodup) (hs : X.env.scope = sc) (nm : ∀ x, locB X.env.scope x = true → X.fn x = true ∨ X.env.scope.names.lookup x = some .local)
    (h : chkNs sc N l ts = true) (hk : ts.length ≤ 1000) (ha : PA X es ta) (hm : TaMono ta) (hl : es.length = l.length) (hok : parOk sc ts es = true) : PS X (.Assign [.Tuple ts k p] (.Tuple es k2 p2) pos) (tPr l ta) := by
  obtain ⟨s1, s2⟩ := chkNs_star h
  rcases swap_cases (env := X.env) (k := k) (k2 := k2) (p := p) (p2 := p2) (by rw [hs]; exact hok) with q | ⟨names, q, q1, q2, q3, q4⟩
  · exact par_plain hc (pgs_ns hN nd hs nm h) s1 s2 hk ha hm q
  · rcases q1 with q1 | q1
    · match l, s2, hl, h with
      | [i, j], _, hl, h => exact ps_par2 hc hN nd hs h ha hm hl q q2 q3 q4
      | [], s2, _, _ => rw [q1] at s2; cases s2
      | [_], s2, _, _ => rw [q1] at s2; cases s2
      | _ :: _ :: _ :: _, s2, _, _ => rw [q1] at s2; simp at s2
    · match l, s2, hl, h with
      | [i, j, m], _, hl, h => exact ps_par3' hc hN nd hs h ha hm hl q q2 q3 q4
      | [], s2, _, _ => rw [q1] at s2; cases s2
      | [_], s2, _, _ => rw [q1] at s2; cases s2
      | [_, _], s2, _, _ => rw [q1] at s2; cases s2
      | _ :: _ :: _ :: _ :: _, s2, _, _ => rw [q1] at s2; simp at s2
end
end SW

namespace SW
open PySem PySem.Spec PyProof.Rows L2

/-! ### statements: the look -/
def isF : Ex → Bool
  | .lst _ | .comp .. | .call .. => true
  | .bin .Mult _ _ => true
  | _ => false
def isCo : Ex → Bool
  | .comp .. => true
  | _ => false
def noTup : Expr → Bool
  | .Tuple .. => false
  | _ => true
section
variable (c : Cfg0) (N : List Str)
def chkPs (sc : Scope) : List (Nat × Bool) → Exs → List Expr → Bool
  | [], es, l => match es, l with
    | .nil, [] => true
    | _, _ => false
  | (_, o) :: r, es, l => match es, l with
    | .cons x xs, e :: t => (!o || isF x) && noStar e && chkE c N sc x e && chkPs sc r xs t
    | _, _ => false
mutual
def chkS (sc : Scope) : Sm → Stmt → Bool
  | .set _ i x, st => match st with
    | .Assign [.Name y _] e _ => decide (N[i]? = some y) && locB sc y && (noComp e || isCo x) && chkE c N sc x e
    | _ => false
  | .seto i x, st => match st with
    | .Assign [.Name y _] e _ => decide (N[i]? = some y) && locB sc y && (noComp e || isCo x) && isF x && chkE c N sc x e
    | _ => false
  | .asg tg x, st => match st with
    | .Assign [t] e _ => isTp tg && chkT sc N tg t && noTup e && noComp e && chkE c N sc x e
    | _ => false
  | .par l xs, st => match st with
    | .Assign [.Tuple ts _ _] (.Tuple es _ _) _ => chkNs sc N (l.map (·.1)) ts && decide (ts.length ≤ 1000) && parOk sc ts es && chkPs c N sc l xs es
    | _ => false
  | .app _ i x, st => match st with
    | .Expr (.Call (.Attribute (.Name y p) m ap) [e] [] cp) _ => isNm sc N i (.Name y p) && m == ("append" : Str) && ap.endLine == cp.line && noStar e && chkE c N sc x e
    | _ => false
  | .seti _ i k x, st => match st with
    | .Assign [.Subscript (.Name y p) ek _] e _ => isNm sc N i (.Name y p) && noSlice ek && noComp e && chkE c N sc k ek && chkE c N sc x e
    | _ => false
  | .expr x, st => match st with
    | .Expr e _ => noComp e && chkE c N sc x e
    | _ => false
  | .ret x, st => match st with
    | .Return (some e) _ => chkE c N sc x e
    | _ => false
  | .reto x, st => match st with
    | .Return (some e) _ => isF x && chkE c N sc x e
    | _ => false
  | .retv i, st => match st with
    | .Return (some e) _ => isNm sc N i e
    | _ => false
  | .retn, st => match st with
    | .Return none _ => true
    | _ => false
  | .ife x a b, st => match st with
    | .If e sa sb _ => chkE c N sc x e && chkSs sc a sa && chkSs sc b sb
    | _ => false
  | .forr tg it body, st => match st with
    | .For t e sb [] _ => chkT sc N tg t && noSet e && chkIt c N sc it (isTp tg) e && chkSs sc body sb
    | _ => false
  | .whil x body, st => match st with
    | .While e sb [] _ => chkE c N sc x e && chkSs sc body sb
    | _ => false
  | .frz _ s, st => chkS sc s st
  | .news i j x, st => match st with
    | .Assign [.Name y _] (.Call f [.Name z p, e] [] _) _ => c.lm && decide (N[i]? = some y) && locB sc y && isGl sc "_law_source" f && isNm sc N j (.Name z p) && noStar e && chkE c N sc x e
    | _ => false
  | .brk, st => match st with
    | .Break _ => true
    | _ => false
  | .cnt, st => match st with
    | .Continue _ => true
    | _ => false
  | .pass, st => match st with
    | .Pass _ => true
    | _ => false
  | .never, _ => true
def chkSs (sc : Scope) : Sms → List Stmt → Bool
  | .nil, l => match l with | [] => true | _ => false
  | .cons s r, l => match l with
    | st :: t => chkS sc s st && chkSs sc r t
    | [] => false
end
end
/-! ### what holds at a statement -/
structure SOk (K : PySem.W.Frag) (lm : Bool) (as : Option Addr) (Hi0 H0 Hi H : Hp) (σ : St) (ρ : List S) : Prop where
  go : Go as Hi0 H0 Hi H
  y : YOk K as H0 Hi H σ ρ
  fr : lm = true → ∀ a, as = some a → H0 a = none
def RetR (K : PySem.W.Frag) (as : Option Addr) (H0 Hi H : Hp) (v : V) : S → Prop
  | .val d => Rp K Hi v d
  | .own ds => ∃ p, v = .ref p ∧ OwnAt K as H0 Hi H p ds
  | _ => False
structure EndR (K : PySem.W.Frag) (lm : Bool) (as : Option Addr) (Hi0 H0 Hi : Hp) (E : End) (D : Ends) : Prop where
  nx : ∀ as' ρ' σ' H' Hi', E.nx ρ' → SOk K lm as' Hi0 H0 Hi' H' σ' ρ' → Same Hi Hi' → (lm = false → as' = as) → D.nx σ' H'
  rt : ∀ as' r v H' Hi', E.rt r → Go as' Hi0 H0 Hi' H' → RetR K as' H0 Hi' H' v r → (lm = false → as' = as) → D.rt v H'
  bk : ∀ as' ρ' σ' H' Hi', E.bk ρ' → SOk K lm as' Hi0 H0 Hi' H' σ' ρ' → Same Hi Hi' → (lm = false → as' = as) → D.bk σ' H'
  ct : ∀ as' ρ' σ' H' Hi', E.ct ρ' → SOk K lm as' Hi0 H0 Hi' H' σ' ρ' → Same Hi Hi' → (lm = false → as' = as) → D.ct σ' H'
def tSm (K : PySem.W.Frag) (Φ : Phi) (C : Con) (lm : Bool) (s : Sm) : TS := fun D σ H => ∃ as Hi0 H0 Hi ρ E, SOk K lm as Hi0 H0 Hi H σ ρ ∧ wpS Φ C s ρ E ∧ EndR K lm as Hi0 H0 Hi E D
def tSms (K : PySem.W.Frag) (Φ : Phi) (C : Con) (lm : Bool) (s : Sms) : TS := fun D σ H => ∃ as Hi0 H0 Hi ρ E, SOk K lm as Hi0 H0 Hi H σ ρ ∧ wpSs Φ C s ρ E ∧ EndR K lm as Hi0 H0 Hi E D
section
variable {K : PySem.W.Frag} {lm : Bool} {as : Option Addr} {Hi0 H0 Hi H Hi' H' : Hp} {σ : St} {ρ : List S} {Φ : Phi} {C : Con}
theorem Go.then (g : Go as Hi0 H0 Hi H) (g2 : Go as Hi H Hi' H') : Go as Hi0 H0 Hi' H' := by
  refine ⟨g.imm.trans g2.imm, g2.sub, fun b o h n => g2.keep b o (g.keep b o h n) n, fun b h n => ?_, g2.src⟩
  refine g2.out b (fun e => ?_) (g.out b h n)
  by_cases hb : as = some b
  · obtain ⟨x, y, e2, _⟩ := g.src b hb
    rw [e] at e2
    cases e2
  · cases q : H0 b with
    | none => exact h q
    | some o =>
      rw [g.keep b o q hb] at e
      cases e
theorem Go.none0 (g : Go as Hi0 H0 Hi H) (w : Wo as Hi H) {p : Addr} (hp : H p = none) : H0 p = none := by
  cases e : H0 p with
  | none => rfl
  | some o => rw [g.keep p o e (src_ne w hp)] at hp; cases hp
theorem SOk.step (k : SOk K lm as Hi0 H0 Hi H σ ρ) (g : Go as Hi H Hi' H') : SOk K lm as Hi0 H0 Hi' H' σ ρ := ⟨k.go.then g, k.y.go g, k.fr⟩
theorem EndR.mono {as' : Option Addr} {E : End} {D : Ends} (e : EndR K lm as Hi0 H0 Hi E D) (s : Same Hi Hi') (ha : lm = false → as' = as) : EndR K lm as' Hi0 H0 Hi' E D :=
  ⟨fun a2 ρ2 σ2 H2 Hi2 q k s2 e2 => e.nx a2 ρ2 σ2 H2 Hi2 q k (s.trans s2) fun l => (e2 l).trans (ha l), fun a2 r v H2 Hi2 q g k e2 => e.rt a2 r v H2 Hi2 q g k fun l => (e2 l).trans (ha l),
    fun a2 ρ2 σ2 H2 Hi2 q k s2 e2 => e.bk a2 ρ2 σ2 H2 Hi2 q k (s.trans s2) fun l => (e2 l).trans (ha l), fun a2 ρ2 σ2 H2 Hi2 q k s2 e2 => e.ct a2 ρ2 σ2 H2 Hi2 q k (s.trans s2) fun l => (e2 l).trans (ha l)⟩
/-- a new list in a slot -/
theorem SOk.setN {p : Addr} {ds : List D} {Hc : Hp} (i : Nat) (k : SOk K lm as Hi0 H0 Hi H σ ρ) (h : OwnAt K as H0 Hi H p ds) (hp : Hc p = none) (hc : ∀ j es a, getS ρ j = .own es → σ[j]? = some (some (.ref a)) → Hc a ≠ none) : SOk K lm as Hi0 H0 Hi H (σ.set i (some (.ref p))) (setS ρ i (.own ds)) :=
  ⟨k.go, k.y.setO i h fun j es q e => hc j es p q e hp, k.fr⟩
theorem SOk.old (k : SOk K lm as Hi0 H0 Hi H σ ρ) : ∀ j es a, getS ρ j = .own es → σ[j]? = some (some (.ref a)) → H a ≠ none := fun j es a q e => by
  obtain ⟨b, h1, _, _, _, vs, h5, _⟩ := k.y.own j es q
  rw [e] at h1
  cases h1
  rw [h5]
  exact fun z => nomatch z
theorem Go.upd0 (g : Go as Hi H Hi' H') {p : Addr} {o : HO} (hp : H p = none) (hi : Hi' p = none) (ha : as ≠ some p) : Go as Hi H Hi' (L2.upd H' p o) := by
  refine ⟨g.imm, fun b o h => ?_, fun b o h n => ?_, g.out, fun a h => ?_⟩
  · rw [upd_ne (ne_of_none h hi)]; exact g.sub _ _ h
  · rw [upd_ne (ne_of_none h hp)]; exact g.keep b o h n
  · obtain ⟨x, y, e, s⟩ := g.src a h
    exact ⟨x, y, by rw [upd_ne (fun z => ha (by rw [← z]; exact h))]; exact e, s⟩
variable (hΦ : PhiMono Φ)
include hΦ
/-- an expression that sees no own list -/
theorem e_hid (k : SOk K lm as Hi0 H0 Hi H σ ρ) {x : Ex} {P : D → Prop} {R : VK} (w : wpE Φ C x (see false ρ) P) (h : ∀ d v H' Hi', P d → SOk K lm as Hi0 H0 Hi' H' σ ρ → Same Hi Hi' → Rp K Hi' v d → R v H') : tE K Φ C x σ H R :=
  ⟨as, Hi, _, k.y.see, wpE_mono hΦ x _ (fun d q v H' Hi' g hd => h d v H' Hi' q (k.step g) g.imm hd) w⟩
/-- .. that sees them as they stand -/
theorem e_see (k : SOk K lm as Hi0 H0 Hi H σ ρ) {x : Ex} {P : D → Prop} {R : VK} (w : wpE Φ C x (see true ρ) P)
    (h : ∀ d v H', P d → SOk K lm as Hi0 H0 Hi H' σ ρ → (scal1 d = true → Rp K Hi v d) → (∃ Hi', Go as Hi0 H0 Hi' H' ∧ Rp K Hi' v d) → R v H') : tE K Φ C x σ H R := by
  obtain ⟨Hp', s, xo, o⟩ := k.y.peek
  refine ⟨as, Hp', _, xo, wpE_mono hΦ x _ (fun d q v H' Hi' g hd => ?_) w⟩
  have gu := Go.unpeek k.y.toWo s g
  exact h d v H' q (k.step gu) (fun sc => scal_rp hd sc) ⟨Hi', (k.go.peek s xo.toWo o).then g, hd⟩
theorem e_any (pk : Bool) (k : SOk K lm as Hi0 H0 Hi H σ ρ) {x : Ex} {P : D → Prop} {R : VK} (w : wpE Φ C x (see pk ρ) fun d => (pk = true → scal1 d = true) ∧ P d)
    (h : ∀ d v H' Hi', P d → SOk K lm as Hi0 H0 Hi' H' σ ρ → Same Hi Hi' → Rp K Hi' v d → R v H') : tE K Φ C x σ H R := by
  cases pk with
  | false => exact e_hid hΦ k w fun d v H' Hi' q k' s hd => h d v H' Hi' q.2 k' s hd
  | true => exact e_see hΦ k w fun d v H' q k' hs _ => h d v H' Hi q.2 k' (Same.refl _) (hs (q.1 rfl))
theorem e_new (k : SOk K lm as Hi0 H0 Hi H σ ρ) {x : Ex} {P : List D → Prop} {R : VK} (w : wpF Φ C x (see false ρ) P)
    (h : ∀ ds p H' Hi', P ds → SOk K lm as Hi0 H0 Hi' H' σ ρ → Same Hi Hi' → H p = none → OwnAt K as H0 Hi' H' p ds → R (.ref p) H') : tF K Φ C x σ H R :=
  ⟨as, Hi, _, k.y.see, wpF_mono hΦ x _ (fun ds q p vs H' Hi' g hp hi ha hH hR => h ds p H' Hi' q (k.step g) g.imm hp ⟨k.go.none0 k.y.toWo hp, hi, ha, vs, hH, hR⟩) w⟩
end
end SW

namespace SW
open PySem PySem.Spec PyProof.Rows L2

theorem psI {X : Cx} {st : Stmt} {t t' : TS} (h : PS X st t) (m : ∀ D σ H, t' D σ H → t D σ H) : PS X st t' := ⟨fun pins s σ H D I q => h.run pins s σ H D I (m D σ H q)⟩
section
variable {c : Cfg} {N : List Str} {X : Cx}
theorem sndF (x : Ex) (sc : Scope) (e : Expr) (gx : GX c N X) (hs : X.env.scope = sc) (hf : isF x = true) (h : chkE c N sc x e = true) : PE X e (tF X.K c.Φ c.C x) := by
  cases x <;> first | exact absurd hf Bool.false_ne_true | skip
  case lst es =>
    unfold chkE at h
    split at h
    · rename_i l p
      simp only [Bool.and_eq_true, decide_eq_true_eq] at h
      exact f_lst (gx_mono c) (sndEs es sc l X gx hs h.2) h.1 fun ρ Q w => by rw [← (chkEs_star h.2).2]; exact wpEs_len (gx_mono c) es ρ w
    · cases h
  case bin op a b =>
    cases op <;> first | exact absurd hf Bool.false_ne_true | skip
    unfold chkE at h
    split at h
    · simp only [Bool.and_eq_true, decide_eq_true_eq] at h
      obtain ⟨⟨rfl, h2⟩, h3⟩ := h
      refine peI (pe_op op_rep (sndE a sc _ X gx hs h2).1 (sndE b sc _ X gx hs h3).1) fun σ H Q ⟨as, Hi, ρ, ok, w⟩ => ⟨as, Hi, ρ, ok, wpE_mono (gx_mono c) a ρ (fun d q v H1 Hi1 g1 hd => ?_) w⟩
      refine ⟨as, Hi1, ρ, ok.go g1, wpE_mono (gx_mono c) b ρ (fun d2 q2 v2 H2 Hi2 g2 hd2 => ?_) q⟩
      split at q2
      · obtain ⟨⟨p1, p2, p3⟩, q2⟩ := q2
        cases hd2
        have w2 := g2.wo (g1.wo ok.toWo)
        have g12 := g1.trans ok.toWo g2
        cases dp_up g2.imm _ _ hd with
        | @lst a' xs ds ha hx =>
          have l1 := dps_len hx
          refine ⟨a', _, xs, rfl, rfl, w2.sub _ _ ha, by omega, by omega, ?_, fun p hp => ?_⟩
          · rw [l1]
            exact Nat.le_trans (Nat.mul_le_mul p3 (show _ ≤ 1000 by omega)) (by decide)
          · exact q2 p _ _ _ (g12.trans ok.toWo (Go.newO w2 hp)) (g12.nope ok.toWo hp) (hi_none w2 hp) (src_ne w2 hp) upd_same (dps_rep hx _)
      · exact q2.elim
    · cases h
  case comp elt tg it cond own =>
    exact f_comp (fun sc e X gx hs h => sndE elt sc e X gx hs h) (fun sc l X gx hs h => sndCs cond sc l X gx hs h) (fun sc tp e tg X gx hs ht h => sndIt it sc tp e tg X gx hs ht h) gx hs h
  case call f es =>
    unfold chkE at h
    split at h
    · rename_i g l pos
      simp only [Bool.and_eq_true] at h
      obtain ⟨⟨h1, h2⟩, h3⟩ := h
      split at h2
      · rename_i F q
        simp only [Bool.and_eq_true, decide_eq_true_eq] at h2
        obtain ⟨p, rfl, k1, k2⟩ := isGl_of h2.1
        obtain ⟨n1, n2⟩ := chkEs_star h3
        have cal := gx.fns f (by simpa using h1) F q
        rw [h2.2] at cal
        exact f_call (gx_mono c) cal gx.room (Nat.le_refl _) (gl_of hs k1) (sndEs es sc l X gx hs h3) k2 n1 n2
      · cases h2
    · cases h
/-- name = value, by what the value reads -/
theorem asg_name {x : Ex} {sc : Scope} {e : Expr} {i : Nat} {y : Str} {p pos : Pos} {t : TE} (sx : SX c N X) (hs : X.env.scope = sc) (h1 : N[i]? = some y) (h2 : locB sc y = true) (he : PE X e t) (hn : noComp e = true) : PS X (.Assign [.Name y p] e pos) (tAsg t (gName i)) :=
  ps_set sx.nd (by rw [sx.N]; exact h1) (locB_of (by rw [hs]; exact h2)) he (noComp_sw hn) (sx.nm y (by rw [hs]; exact h2))
theorem asg_co {x : Ex} {sc : Scope} {e : Expr} {i : Nat} {y : Str} {p pos : Pos} (sx : SX c N X) (hs : X.env.scope = sc) (h1 : N[i]? = some y) (h2 : locB sc y = true) (hn : isCo x = true) (h : chkE c N sc x e = true) :
    PS X (.Assign [.Name y p] e pos) (tAsg (tF X.K c.Φ c.C x) (gName i)) := by
  cases x <;> first | exact absurd hn Bool.false_ne_true | skip
  case comp elt tg it cond own =>
    exact (f_comp2 (fun sc e X gx hs h => sndE elt sc e X gx hs h) (fun sc l X gx hs h => sndCs cond sc l X gx hs h) (fun sc tp e tg X gx hs ht h => sndIt it sc tp e tg X gx hs ht h) sx.toGX hs h).2 i y p pos (by rw [sx.N]; exact h1) (locB_of (by rw [hs]; exact h2)) (sx.nm y (by rw [hs]; exact h2))
theorem co_F {x : Ex} (hn : isCo x = true) : ∀ ρ Q, wpE c.Φ c.C x ρ Q → wpF c.Φ c.C x ρ fun ds => Q (.list ds) := by
  cases x <;> first | exact absurd hn Bool.false_ne_true | exact fun _ _ w => w
theorem s_set {pk : Bool} {x : Ex} {sc : Scope} {e : Expr} {i : Nat} {y : Str} {p pos : Pos} (sx : SX c N X) (hs : X.env.scope = sc) (h1 : N[i]? = some y) (h2 : locB sc y = true) (h3 : (noComp e || isCo x) = true) (h : chkE c N sc x e = true) :
    PS X (.Assign [.Name y p] e pos) (tSm X.K c.Φ c.C c.lm (.set pk i x)) := by
  have key : ∀ D σ H, tSm X.K c.Φ c.C c.lm (.set pk i x) D σ H → tE X.K c.Φ c.C x σ H (fun v H1 => D.nx (σ.set i (some v)) H1) := fun D σ H ⟨as, Hi0, H0, Hi, ρ, E, k, w, ed⟩ =>
    e_any (gx_mono c) pk k w fun d v H' Hi' q k' s hd => ed.nx as _ _ H' Hi' q ⟨k'.go, k'.y.set i hd, k'.fr⟩ s fun _ => rfl
  cases hn : isCo x with
  | true => exact psI (asg_co sx hs h1 h2 hn h) fun D σ H q => tF_tE (co_F (c := c) hn) (gx_mono c) σ H _ (key D σ H q)
  | false => exact psI (asg_name (x := x) sx hs h1 h2 (sndE x sc e X sx.toGX hs h).1 (by rw [hn] at h3; simpa using h3)) key
theorem s_seto {x : Ex} {sc : Scope} {e : Expr} {i : Nat} {y : Str} {p pos : Pos} (sx : SX c N X) (hs : X.env.scope = sc) (h1 : N[i]? = some y) (h2 : locB sc y = true) (h3 : (noComp e || isCo x) = true) (hf : isF x = true) (h : chkE c N sc x e = true) :
    PS X (.Assign [.Name y p] e pos) (tSm X.K c.Φ c.C c.lm (.seto i x)) := by
  have key : ∀ D σ H, tSm X.K c.Φ c.C c.lm (.seto i x) D σ H → tF X.K c.Φ c.C x σ H (fun v H1 => D.nx (σ.set i (some v)) H1) := fun D σ H ⟨as, Hi0, H0, Hi, ρ, E, k, w, ed⟩ =>
    e_new (gx_mono c) k w fun ds p H' Hi' q k' s hp ho => ed.nx as _ _ H' Hi' q (SOk.setN i k' ho hp k.old) s fun _ => rfl
  cases hn : isCo x with
  | true => exact psI (asg_co sx hs h1 h2 hn h) key
  | false => exact psI (asg_name (x := x) sx hs h1 h2 (sndF x sc e sx.toGX hs hf h) (by rw [hn] at h3; simpa using h3)) key
theorem s_asg {x : Ex} {tg : Tg} {sc : Scope} {e t : Expr} {pos : Pos} (sx : SX c N X) (hs : X.env.scope = sc) (h1 : isTp tg = true) (h2 : chkT sc N tg t = true) (h3 : noTup e = true) (h4 : noComp e = true) (h : chkE c N sc x e = true) :
    PS X (.Assign [t] e pos) (tSm X.K c.Φ c.C c.lm (.asg tg x)) := by
  have hl : ∀ y, locB sc y = true → Loc X.env.scope y ∧ (X.fn y = true ∨ X.env.scope.names.lookup y = some .local) := fun y hy => ⟨locB_of (by rw [hs]; exact hy), sx.nm y (by rw [hs]; exact hy)⟩
  have ht : noStar t = true := by
    cases tg with
    | nm i => cases h1
    | tp l => cases t <;> first | exact absurd h2 Bool.false_ne_true | rfl
  refine psI (ps_asg (sndE x sc e X sx.toGX hs h).1 (sndG tg t X sx.N sx.nd sx.calm hl h2) (noComp_sw h4) ?_ ?_) fun D σ H ⟨as, Hi0, H0, Hi, ρ, E, k, w, ed⟩ => ?_
  · unfold swappedStores
    cases t <;> first | rfl | skip
    all_goals cases e <;> first | rfl | exact absurd h3 Bool.false_ne_true
  · rw [asg_cons ht]; rfl
  · refine (?_ : tE X.K c.Φ c.C x σ H fun v H1 => gD X.K tg v σ H1 D.nx)
    exact e_hid (gx_mono c) k w fun d v H' Hi' q k' s hd => bind_y k'.y hd q fun ρ' σ' q2 y' => ed.nx as _ _ H' Hi' q2 ⟨k'.go, y', k'.fr⟩ s fun _ => rfl
theorem s_expr {x : Ex} {sc : Scope} {e : Expr} {pos : Pos} (sx : SX c N X) (hs : X.env.scope = sc) (h4 : noComp e = true) (h : chkE c N sc x e = true) : PS X (.Expr e pos) (tSm X.K c.Φ c.C c.lm (.expr x)) :=
  psI (ps_expr (sndE x sc e X sx.toGX hs h).1 (noComp_sw h4)) fun D σ H ⟨as, Hi0, H0, Hi, ρ, E, k, w, ed⟩ =>
    e_see (gx_mono c) k w fun d v H' q k' _ _ => ed.nx as _ _ H' Hi q k' (Same.refl _) fun _ => rfl
theorem s_ret {x : Ex} {sc : Scope} {e : Expr} {pos : Pos} (sx : SX c N X) (hs : X.env.scope = sc) (h : chkE c N sc x e = true) : PS X (.Return (some e) pos) (tSm X.K c.Φ c.C c.lm (.ret x)) :=
  psI (ps_ret (sndE x sc e X sx.toGX hs h).1) fun D σ H ⟨as, Hi0, H0, Hi, ρ, E, k, w, ed⟩ =>
    e_see (gx_mono c) k w fun d v H' q k' _ ⟨Hi', g, hd⟩ => ed.rt as _ v H' Hi' q g hd fun _ => rfl
theorem s_reto {x : Ex} {sc : Scope} {e : Expr} {pos : Pos} (sx : SX c N X) (hs : X.env.scope = sc) (hf : isF x = true) (h : chkE c N sc x e = true) : PS X (.Return (some e) pos) (tSm X.K c.Φ c.C c.lm (.reto x)) :=
  psI (ps_ret (sndF x sc e sx.toGX hs hf h)) fun D σ H ⟨as, Hi0, H0, Hi, ρ, E, k, w, ed⟩ =>
    e_new (gx_mono c) k w fun ds p H' Hi' q k' _ _ ho => ed.rt as _ _ H' Hi' q k'.go ⟨p, rfl, ho⟩ fun _ => rfl
theorem s_retv {i : Nat} {sc : Scope} {e : Expr} {pos : Pos} (sx : SX c N X) (hs : X.env.scope = sc) (h : isNm sc N i e = true) : PS X (.Return (some e) pos) (tSm X.K c.Φ c.C c.lm (.retv i)) := by
  obtain ⟨y, p, rfl, h1, h2, h3⟩ := isNm_of h
  obtain ⟨o1, o2⟩ := okNm_of h3
  refine psI (ps_ret (pe_var (by rw [sx.N]; exact h1) (visB_of (by rw [hs]; exact h2)) o1 o2)) fun D σ H ⟨as, Hi0, H0, Hi, ρ, E, k, w, ed⟩ => ?_
  unfold wpS at w
  split at w
  · rename_i ds q
    obtain ⟨a, k1, k2⟩ := k.y.own i ds q
    exact ⟨_, k1, ed.rt as _ _ H Hi w k.go ⟨a, rfl, k2⟩ fun _ => rfl⟩
  · exact w.elim
theorem s_retn {pos : Pos} : PS X (.Return none pos) (tSm X.K c.Φ c.C c.lm .retn) :=
  psI ps_retN fun D σ H ⟨as, Hi0, H0, Hi, ρ, E, k, w, ed⟩ => ed.rt as _ _ H Hi w k.go .non fun _ => rfl
theorem s_brk {pos : Pos} : PS X (.Break pos) (tSm X.K c.Φ c.C c.lm .brk) :=
  psI ps_break fun D σ H ⟨as, Hi0, H0, Hi, ρ, E, k, w, ed⟩ => ed.bk as _ _ H Hi w k (Same.refl _) fun _ => rfl
theorem s_cnt {pos : Pos} : PS X (.Continue pos) (tSm X.K c.Φ c.C c.lm .cnt) :=
  psI ps_continue fun D σ H ⟨as, Hi0, H0, Hi, ρ, E, k, w, ed⟩ => ed.ct as _ _ H Hi w k (Same.refl _) fun _ => rfl
theorem s_pass {pos : Pos} : PS X (.Pass pos) (tSm X.K c.Φ c.C c.lm .pass) :=
  psI ps_pass fun D σ H ⟨as, Hi0, H0, Hi, ρ, E, k, w, ed⟩ => ed.nx as _ _ H Hi w k (Same.refl _) fun _ => rfl
theorem s_app {pk : Bool} {i : Nat} {x : Ex} {sc : Scope} {e : Expr} {y : Str} {p ap cp pos : Pos} (sx : SX c N X) (hs : X.env.scope = sc) (h1 : isNm sc N i (.Name y p) = true) (h2 : (ap.endLine == cp.line) = true) (h3 : noStar e = true) (h : chkE c N sc x e = true) :
    PS X (.Expr (.Call (.Attribute (.Name y p) "append" ap) [e] [] cp) pos) (tSm X.K c.Φ c.C c.lm (.app pk i x)) := by
  obtain ⟨y', p', e', k1, k2, k3⟩ := isNm_of h1
  cases e'
  obtain ⟨o1, o2⟩ := okNm_of k3
  refine psI (ps_expr (pe_bm PySem.F.plainAttrs_list PySem.F.slot_list_append PySem.F.type_list_append mt_append (pe_var (by rw [sx.N]; exact k1) (visB_of (by rw [hs]; exact k2)) o1 o2) (pa_cons (sndE x sc e X sx.toGX hs h).1 pa_nil (star_cons h3)) ?_ ?_ h2 (star_cons h3))) fun D σ H ⟨as, Hi0, H0, Hi, ρ, E, k, w, ed⟩ => ?_
  · rfl
  · rw [star_cons h3]; rfl
  · unfold wpS at w
    split at w
    · rename_i ds q
      obtain ⟨a, k1, k2, k3, k4, vs, k5, k6⟩ := k.y.own i ds q
      refine ⟨_, k1, .inl ⟨rfl, _, SqL.of k5⟩, ?_⟩
      refine e_any (gx_mono c) pk k w fun d v H' Hi' q2 k' s hd => ?_
      obtain ⟨b, j1, j2, j3, j4, ws, j5, j6⟩ := k'.y.own i ds q
      rw [k1] at j1
      cases j1
      refine ⟨a, ws, v, rfl, rfl, j5, by rw [dps_len j6]; exact q2.1, ?_⟩
      exact ed.nx as _ _ _ Hi' q2.2 ⟨k'.go.upd0 j2 j3 j4, k'.y.upd q k1 (dps_app j6 (.cons hd .nil)), k'.fr⟩ s fun _ => rfl
    · exact w.elim
theorem s_seti {pk : Bool} {i : Nat} {kx x : Ex} {sc : Scope} {e ek : Expr} {y : Str} {p p2 pos : Pos} (sx : SX c N X) (hs : X.env.scope = sc) (h1 : isNm sc N i (.Name y p) = true) (h2 : noSlice ek = true) (h3 : noComp e = true) (hk : chkE c N sc kx ek = true) (h : chkE c N sc x e = true) :
    PS X (.Assign [.Subscript (.Name y p) ek p2] e pos) (tSm X.K c.Φ c.C c.lm (.seti pk i kx x)) := by
  obtain ⟨y', p', e', k1, k2, k3⟩ := isNm_of h1
  cases e'
  obtain ⟨o1, o2⟩ := okNm_of k3
  refine psI (ps_asg (sndE x sc e X sx.toGX hs h).1 (pg_sub (pe_var (by rw [sx.N]; exact k1) (visB_of (by rw [hs]; exact k2)) o1 o2) (sndE kx sc ek X sx.toGX hs hk).1 set_list ?_) ?_ ?_ ?_) fun D σ H ⟨as, Hi0, H0, Hi, ρ, E, k, w, ed⟩ => ?_
  · intro v
    cases ek <;> first | rfl | exact absurd h2 Bool.false_ne_true
  · cases e <;> first | rfl | exact absurd h3 Bool.false_ne_true
  · unfold swappedStores
    cases e <;> rfl
  · rfl
  · unfold wpS at w
    split at w
    · rename_i ds q
      refine e_any (gx_mono c) pk k w fun d v H' Hi' q2 k' s hd => ?_
      obtain ⟨a, j1, j2, j3, j4, ws, j5, j6⟩ := k'.y.own i ds q
      refine ⟨_, j1, ?_⟩
      refine e_see (gx_mono c) k' q2 fun d2 v2 H2 q3 k2 hs2 _ => ?_
      cases d2 <;> first | exact q3.elim | skip
      rename_i n hx
      cases hs2 rfl
      obtain ⟨a', i1, i2, i3, i4, us, i5, i6⟩ := k2.y.own i ds q
      rw [j1] at i1
      cases i1
      have q3 : (match ixN ds.length n with
        | some m => E.nx (setS ρ i (.own (ds.set m d)))
        | none => False) := q3
      split at q3
      · rename_i m e2
        refine ⟨a, us, n, m, rfl, rfl, i5, by rw [dps_len i6]; exact e2, ?_⟩
        exact ed.nx as _ _ _ Hi' q3 ⟨k2.go.upd0 i2 i3 i4, k2.y.upd q j1 (dps_set hd m i6), k2.fr⟩ s fun _ => rfl
      · exact q3.elim
    · exact w.elim
end
end SW

namespace SW
open PySem PySem.Spec PyProof.Rows L2

/-! ### a, b = x, y: what is stored -/
inductive ParR (K : PySem.W.Frag) (as : Option Addr) (Hi' H' : Hp) : Hp → List V → List S → Prop
  | nil {H : Hp} : ParR K as Hi' H' H [] []
  | val {H : Hp} {v : V} {d : D} {vs : List V} {rs : List S} : Rp K Hi' v d → ParR K as Hi' H' H vs rs → ParR K as Hi' H' H (v :: vs) (.val d :: rs)
  | own {H H1 : Hp} {p : Addr} {xs : List V} {ds : List D} {vs : List V} {rs : List S} : H p = none → Hi' p = none → as ≠ some p → H' p = some (.lst xs) → RpAll K Hi' xs ds → H1 p ≠ none → (∀ b, H1 b = none → H b = none) →
      ParR K as Hi' H' H1 vs rs → ParR K as Hi' H' H (.ref p :: vs) (.own ds :: rs)
theorem ParR.len {K : PySem.W.Frag} {as : Option Addr} {Hi' H' H : Hp} {vs : List V} {rs : List S} (h : ParR K as Hi' H' H vs rs) : vs.length = rs.length := by
  induction h with
  | nil => rfl
  | val _ _ ih => simp [ih]
  | own _ _ _ _ _ _ _ _ ih => simp [ih]
def tPA (K : PySem.W.Frag) (Φ : Phi) (C : Con) (l : List (Nat × Bool)) (es : Exs) : TA := fun σ H Q => ∃ as Hi ρ, XOk K as Hi H σ ρ ∧ wpPar Φ C l es ρ fun rs => ∀ vs H' Hi', Go as Hi H Hi' H' → ParR K as Hi' H' H vs rs → Q vs H'
section
variable {c : Cfg} {N : List Str} {X : Cx}
theorem wpPar_len : ∀ (l : List (Nat × Bool)) (es : Exs) (ρ : List S) {Q : List S → Prop}, wpPar c.Φ c.C l es ρ Q → wpPar c.Φ c.C l es ρ fun rs => rs.length = l.length ∧ Q rs
  | [], .nil, ρ, Q, h => ⟨rfl, h⟩
  | [], .cons _ _, ρ, Q, h => h.elim
  | _ :: _, .nil, ρ, Q, h => h.elim
  | (i, o) :: l, .cons e es, ρ, Q, h => by
    cases o with
    | true => exact wpF_mono (gx_mono c) e ρ (fun ds q => wpPar_mono (gx_mono c) l es ρ (fun rs q2 => ⟨by simp [q2.1], q2.2⟩) (wpPar_len l es ρ q)) h
    | false => exact wpE_mono (gx_mono c) e ρ (fun ds q => wpPar_mono (gx_mono c) l es ρ (fun rs q2 => ⟨by simp [q2.1], q2.2⟩) (wpPar_len l es ρ q)) h
theorem sndPs : ∀ (l : List (Nat × Bool)) (xs : Exs) (sc : Scope) (es : List Expr), GX c N X → X.env.scope = sc → chkPs c N sc l xs es = true → PA X es (tPA X.K c.Φ c.C l xs) ∧ es.length = l.length
  | [], .nil, sc, es, gx, hs, h => by
    cases es with
    | nil => exact ⟨paI pa_nil fun σ H Q ⟨as, Hi, ρ, ok, w⟩ => w [] H Hi (Go.refl ok.toWo) .nil, rfl⟩
    | cons _ _ => exact absurd h Bool.false_ne_true
  | [], .cons _ _, sc, es, gx, hs, h => absurd h Bool.false_ne_true
  | _ :: _, .nil, sc, es, gx, hs, h => absurd h Bool.false_ne_true
  | (i, o) :: l, .cons x xs, sc, es, gx, hs, h => by
    cases es with
    | nil => exact absurd h Bool.false_ne_true
    | cons e r =>
      simp only [chkPs, Bool.and_eq_true] at h
      obtain ⟨⟨⟨h1, h2⟩, h3⟩, h4⟩ := h
      obtain ⟨ih, il⟩ := sndPs l xs sc r gx hs h4
      refine ⟨?_, by simp [il]⟩
      cases o with
      | true =>
        refine paI (pa_cons (sndF x sc e gx hs (by simpa using h1) h3) ih (star_cons h2)) fun σ H Q ⟨as, Hi, ρ, ok, w⟩ => ⟨as, Hi, ρ, ok, wpF_mono (gx_mono c) x ρ (fun ds q p vs H1 Hi1 g1 hp hi ha hH hR => ?_) w⟩
        refine ⟨as, Hi1, ρ, ok.go g1, wpPar_mono (gx_mono c) l xs ρ (fun rs q2 vs2 H2 Hi2 g2 hr => ?_) q⟩
        exact q2 _ H2 Hi2 (g1.trans ok.toWo g2) (.own hp (g2.out p (by rw [hH]; exact fun z => nomatch z) hi) ha (g2.keep p _ hH ha) (dps_up g2.imm _ _ hR) (by rw [hH]; exact fun z => nomatch z) (fun b hb => g1.nope ok.toWo hb) hr)
      | false =>
        refine paI (pa_cons (sndE x sc e X gx hs h3).1 ih (star_cons h2)) fun σ H Q ⟨as, Hi, ρ, ok, w⟩ => ⟨as, Hi, ρ, ok, wpE_mono (gx_mono c) x ρ (fun d q v H1 Hi1 g1 hd => ?_) w⟩
        refine ⟨as, Hi1, ρ, ok.go g1, wpPar_mono (gx_mono c) l xs ρ (fun rs q2 vs2 H2 Hi2 g2 hr => ?_) q⟩
        exact q2 _ H2 Hi2 (g1.trans ok.toWo g2) (.val (dp_up g2.imm _ _ hd) (low g1 ok.toWo hr))
where
  low {as : Option Addr} {Hi H Hi1 H1 Hi2 H2 : Hp} {vs : List V} {rs : List S} (g1 : Go as Hi H Hi1 H1) (w : Wo as Hi H) (hr : ParR X.K as Hi2 H2 H1 vs rs) : ParR X.K as Hi2 H2 H vs rs := by
    have nn : ∀ b, H1 b = none → H b = none := fun b hb => g1.nope w hb
    generalize hH1 : H1 = Hx at hr nn
    clear hH1
    induction hr with
    | nil => exact .nil
    | val h1 _ ih => exact .val h1 (ih nn)
    | own a1 a2 a3 a4 a5 a6 a7 a8 _ => exact .own (nn _ a1) a2 a3 a4 a5 a6 (fun b hb => nn b (a7 b hb)) a8
theorem tpa_mono (l : List (Nat × Bool)) (xs : Exs) : TaMono (tPA X.K c.Φ c.C l xs) := fun σ H Q Q' m ⟨as, Hi, ρ, ok, w⟩ => ⟨as, Hi, ρ, ok, wpPar_mono (gx_mono c) l xs ρ (fun rs q vs H' Hi' g hr => m vs H' (q vs H' Hi' g hr)) w⟩
theorem par_put {K : PySem.W.Frag} {lm : Bool} {as : Option Addr} {Hi0 H0 Hi' H' Hc : Hp} {vs : List V} {rs : List S} (h : ParR K as Hi' H' Hc vs rs) : ∀ (l : List (Nat × Bool)) (σ : St) (ρ : List S), SOk K lm as Hi0 H0 Hi' H' σ ρ →
    (∀ j es a, getS ρ j = .own es → σ[j]? = some (some (.ref a)) → Hc a ≠ none) → (∀ b, Hc b = none → H0 b = none) → vs.length = l.length → SOk K lm as Hi0 H0 Hi' H' (putA σ (l.map (·.1)) vs) (setAll ρ l rs) := by
  induction h with
  | nil =>
    intro l σ ρ k old h0 hl
    match l, hl with
    | [], _ => exact k
  | @val H v d vs rs hd hr ih =>
    intro l σ ρ k old h0 hl
    match l, hl with
    | (i, o) :: l, hl =>
      refine ih l (σ.set i (some v)) (setS ρ i (.val d)) ⟨k.go, k.y.set i hd, k.fr⟩ (fun j es a e1 e2 => ?_) h0 (by simpa using hl)
      by_cases hj : j = i
      · subst hj
        by_cases hl : j < ρ.length
        · rw [getS_set hl] at e1; cases e1
        · rw [getS_out (by rw [setS_len]; omega)] at e1; cases e1
      · rw [getS_ne hj] at e1
        rw [List.getElem?_set_ne (Ne.symm hj)] at e2
        exact old j es a e1 e2
  | @own H H1 p xs ds vs rs a1 a2 a3 a4 a5 a6 a7 a8 ih =>
    intro l σ ρ k old h0 hl
    match l, hl with
    | (i, o) :: l, hl =>
      refine ih l (σ.set i (some (.ref p))) (setS ρ i (.own ds)) (SOk.setN i k ⟨h0 p a1, a2, a3, xs, a4, a5⟩ a1 old) (fun j es a e1 e2 => ?_) (fun b hb => h0 b (a7 b hb)) (by simpa using hl)
      by_cases hj : j = i
      · subst hj
        by_cases hl : j < ρ.length
        · rw [List.getElem?_set_self (Nat.lt_of_lt_of_le hl k.y.len)] at e2
          cases e2
          exact a6
        · rw [getS_out (by rw [setS_len]; omega)] at e1; cases e1
      · rw [getS_ne hj] at e1
        rw [List.getElem?_set_ne (Ne.symm hj)] at e2
        exact fun z => old j es a e1 e2 (a7 a z)
theorem s_par {l : List (Nat × Bool)} {xs : Exs} {sc : Scope} {ts es : List Expr} {k k2 : Nat} {p p2 pos : Pos} (sx : SX c N X) (hs : X.env.scope = sc) (h1 : chkNs sc N (l.map (·.1)) ts = true) (h2 : ts.length ≤ 1000) (h3 : parOk sc ts es = true) (h : chkPs c N sc l xs es = true) :
    PS X (.Assign [.Tuple ts k p] (.Tuple es k2 p2) pos) (tSm X.K c.Φ c.C c.lm (.par l xs)) := by
  obtain ⟨pa, pl⟩ := sndPs l xs sc es sx.toGX hs h
  refine psI (ps_parA sx.calm sx.N sx.nd hs sx.nm h1 h2 pa (tpa_mono l xs) (by rw [List.length_map]; exact pl) h3) fun D σ H ⟨as, Hi0, H0, Hi, ρ, E, k, w, ed⟩ => ?_
  refine ⟨as, Hi, _, k.y.see, wpPar_mono (gx_mono c) l xs _ (fun rs q vs H' Hi' g hr => ?_) (wpPar_len l xs _ w)⟩
  have hlen : vs.length = l.length := hr.len.trans q.1
  have k' := par_put hr l σ ρ (k.step g) k.old (fun b hb => k.go.none0 k.y.toWo hb) hlen
  refine ⟨by rw [List.length_map]; exact hlen, ed.nx as _ _ H' Hi' q.2 k' g.imm fun _ => rfl, fun T hT => ?_⟩
  exact ed.nx as _ _ _ Hi' q.2 (k'.step (Go.newO k'.y.toWo hT)) g.imm fun _ => rfl
theorem s_news {i j : Nat} {x : Ex} {sc : Scope} {e : Expr} {y z : Str} {p p0 p1 cp pos : Pos} (sx : SX c N X) (hs : X.env.scope = sc) (hlm : c.lm = true) (h1 : N[i]? = some y) (h2 : locB sc y = true) (hg : glB sc "_law_source" = true) (h3 : isNm sc N j (.Name z p) = true) (h4 : noStar e = true) (h : chkE c N sc x e = true) :
    PS X (.Assign [.Name y p1] (.Call (.Name "_law_source" p0) [.Name z p, e] [] cp) pos) (tSm X.K c.Φ c.C c.lm (.news i j x)) := by
  obtain ⟨z', p', e', k1, k2, k3⟩ := isNm_of h3
  cases e'
  obtain ⟨o1, o2⟩ := okNm_of k3
  refine psI (ps_set sx.nd (by rw [sx.N]; exact h1) (locB_of (by rw [hs]; exact h2)) (C8.pe_c (sx.src hlm) sx.room (Nat.le_refl _) (gl_of hs hg) (pa_cons (pe_var (by rw [sx.N]; exact k1) (visB_of (by rw [hs]; exact k2)) o1 o2) (pa_cons (sndE x sc e X sx.toGX hs h).1 pa_nil (star_cons h4))) (by decide) rfl
    (back_any fun u hu => by simp at hu; rw [hu]; exact h4)) rfl (sx.nm y (by rw [hs]; exact h2))) fun D σ H ⟨as, Hi0, H0, Hi, ρ, E, k, w, ed⟩ => ?_
  unfold wpS at w
  split at w
  · rename_i ns q
    have sl := k.y.slot j
    rw [q] at sl
    obtain ⟨a, j1, j2⟩ := sl
    refine ⟨_, j1, ?_⟩
    refine e_hid (gx_mono c) k w fun d v H' Hi' q2 k' s hd => ?_
    cases d <;> first | exact q2.elim | skip
    rename_i n
    cases hd
    obtain ⟨q3, q4⟩ := q2
    refine ⟨a, ns, n, rfl, k'.y.sub.seq (s.seq j2), q3, fun P u t so hP => ?_⟩
    have hi' := hi_none k'.y.toWo hP
    have h0' := k'.go.none0 k'.y.toWo hP
    have hsub : Same Hi' (L2.upd H' P (.lst [.int u, .int t])) := fun b o h => by rw [upd_ne (ne_of_none h hi')]; exact k'.y.sub _ _ h
    have hsrc : ∀ a, some P = some a → SrcAt (L2.upd H' P (.lst [.int u, .int t])) a := fun a e => by cases e; exact ⟨u, t, upd_same, so⟩
    have gk : ∀ m, getS (kill ρ) m = killS (getS ρ m) := fun m => getS_kill ρ m
    refine ed.nx (some P) (setS (kill ρ) i .src) (σ.set i (some (.ref P))) _ Hi' q4 ⟨⟨k'.go.imm, hsub, fun b o hb n => ?_, k'.go.out, hsrc⟩, ?_, fun _ b hb => by cases hb; exact h0'⟩ s (fun e => by rw [hlm] at e; cases e)
    · rw [upd_ne (ne_of_none hb h0')]
      exact k'.go.keep b o hb fun e => by rw [k'.fr hlm b e] at hb; cases hb
    · have xo : XOk X.K (some P) Hi' (L2.upd H' P (.lst [.int u, .int t])) σ (kill ρ) := by
        refine { toWo := ⟨hsub, fun b hb => by cases hb; exact ⟨hi', hsrc _ rfl⟩⟩, len := by simpa [kill] using k'.y.len, slot := fun m => ?_ }
        rw [gk]
        have h := k'.y.slot m
        cases e : getS ρ m with
        | no => trivial
        | own ds => trivial
        | src => trivial
        | scr ns => rw [e] at h; exact h
        | val d => rw [e] at h; exact h
      have yo : YOk X.K (some P) H0 Hi' (L2.upd H' P (.lst [.int u, .int t])) (σ.set i (some (.ref P))) (setS (kill ρ) i .src) := by
        have ne : ∀ m ds, getS (setS (kill ρ) i .src) m = .own ds → m ≠ i ∧ getS ρ m = .own ds ∧ (σ.set i (some (V.ref P)))[m]? = σ[m]? := fun m ds e => by
          by_cases hm : m = i
          · subst hm
            by_cases hl : m < (kill ρ).length
            · rw [getS_set hl] at e; cases e
            · rw [getS_out (by rw [setS_len]; omega)] at e; cases e
          · rw [getS_ne hm, gk] at e
            refine ⟨hm, ?_, List.getElem?_set_ne (Ne.symm hm)⟩
            cases e' : getS ρ m <;> rw [e'] at e <;> cases e
            rfl
        refine { toXOk := xo.setN i _ _ fun hl => ⟨P, rfl, List.getElem?_set_self hl⟩, own := fun m ds e => ?_, dis := fun m m' ds es b e1 e2 e3 e4 => ?_ }
        · obtain ⟨n1, n2, n3⟩ := ne m ds e
          obtain ⟨b, b1, b2, b3, b4, vs, b5, b6⟩ := k'.y.own m ds n2
          have hb : b ≠ P := fun z => by rw [z, hP] at b5; cases b5
          exact ⟨b, by rw [n3]; exact b1, b2, b3, fun z => by cases z; exact hb rfl, vs, by rw [upd_ne hb]; exact b5, b6⟩
        · obtain ⟨_, n2, n3⟩ := ne m ds e1
          obtain ⟨_, m2, m3⟩ := ne m' es e2
          rw [n3] at e3
          rw [m3] at e4
          exact k'.y.dis m m' ds es b n2 m2 e3 e4
      exact yo
  · exact w.elim
where
  getS_kill : ∀ (ρ : List S) (m : Nat), getS (kill ρ) m = killS (getS ρ m)
    | [], m => rfl
    | _ :: _, 0 => rfl
    | _ :: l, m + 1 => getS_kill l m
end
end SW

namespace SW
open PySem PySem.Spec PyProof.Rows L2

section
variable {c : Cfg} {N : List Str} {X : Cx}
theorem s_ife {x : Ex} {a b : Sms} {sc : Scope} {e : Expr} {sa sb : List Stmt} {pos : Pos} (sx : SX c N X) (hs : X.env.scope = sc) (h : chkE c N sc x e = true) (ha : PSs X sa (tSms X.K c.Φ c.C c.lm a)) (hb : PSs X sb (tSms X.K c.Φ c.C c.lm b)) : PS X (.If e sa sb pos) (tSm X.K c.Φ c.C c.lm (.ife x a b)) := by
  refine psI (ps_if (sndE x sc e X sx.toGX hs h).2 ha hb) fun D σ H ⟨as, Hi0, H0, Hi, ρ, E, k, w, ed⟩ => ?_
  refine (?_ : tE X.K c.Φ c.C x σ H fun v H' => ∃ b', v = .bl b' ∧ _)
  refine e_see (gx_mono c) k w fun d v H' q k' hd _ => ?_
  cases d <;> first | exact q.elim | skip
  rename_i b' hx
  cases hd rfl
  refine ⟨b', rfl, ?_⟩
  cases b' with
  | true => exact ⟨as, Hi0, H0, Hi, ρ, E, k', q, ed⟩
  | false => exact ⟨as, Hi0, H0, Hi, ρ, E, k', q, ed⟩
theorem s_whil {x : Ex} {body : Sms} {sc : Scope} {e : Expr} {sb : List Stmt} {pos : Pos} (sx : SX c N X) (hs : X.env.scope = sc) (h : chkE c N sc x e = true) (hb : PSs X sb (tSms X.K c.Φ c.C c.lm body)) : PS X (.While e sb [] pos) (tSm X.K c.Φ c.C c.lm (.whil x body)) := by
  refine psI (ps_while sx.po (sndE x sc e X sx.toGX hs h).2 hb) fun D σ H ⟨as, Hi0, H0, Hi, ρ, E, k, w, ed⟩ => ?_
  obtain ⟨n0, w⟩ := w
  let G := fun (m : Nat) (σ : St) (H : Hp) => ∃ as' Hi' ρ', SOk X.K c.lm as' Hi0 H0 Hi' H σ ρ' ∧ Same Hi Hi' ∧ (c.lm = false → as' = as) ∧ wpWh (fun ρ' K => wpE c.Φ c.C x (see true ρ') fun x => pB x K) (fun ρ' E' => wpSs c.Φ c.C body ρ' E') E m ρ'
  refine ⟨G, ⟨n0, as, Hi, ρ, k, Same.refl _, fun _ => rfl, w⟩, fun m σ1 H1 ⟨as', Hi', ρ', k', s', ha, w'⟩ => ?_⟩
  cases m with
  | zero => exact w'.elim
  | succ m =>
    refine (?_ : tE X.K c.Φ c.C x σ1 H1 fun v H' => ∃ b', v = .bl b' ∧ _)
    refine e_see (gx_mono c) k' w' fun d v H2 q k2 hd _ => ?_
    cases d <;> first | exact q.elim | skip
    rename_i b' hx
    cases hd rfl
    refine ⟨b', rfl, ?_⟩
    cases b' with
    | true =>
      refine ⟨G m, fun σ3 H3 g => ⟨m, Nat.lt_succ_self _, g⟩, as', Hi0, H0, Hi', ρ', _, k2, q, ?_⟩
      have nn : ∀ (a2 : Option Addr) (ρ2 : List S) (σ2 : St) (H' Hi2 : Hp), wpWh (fun ρ' K => wpE c.Φ c.C x (see true ρ') fun x => pB x K) (fun ρ' E' => wpSs c.Φ c.C body ρ' E') E m ρ2 → SOk X.K c.lm a2 Hi0 H0 Hi2 H' σ2 ρ2 → Same Hi' Hi2 → (c.lm = false → a2 = as') → G m σ2 H' :=
        fun a2 ρ2 σ2 H' Hi2 q2 k3 s3 e3 => ⟨a2, Hi2, ρ2, k3, s'.trans s3, fun l => (e3 l).trans (ha l), q2⟩
      exact ⟨nn, (ed.mono s' ha).rt, fun a2 ρ2 σ2 H' Hi2 q2 k3 s3 e3 => (ed.mono s' ha).nx a2 ρ2 σ2 H' Hi2 q2 k3 s3 e3, nn⟩
    | false => exact (ed.mono s' ha).nx as' ρ' σ1 H2 Hi' q k2 (Same.refl _) fun _ => rfl
theorem s_forr {tg : Tg} {it : It} {body : Sms} {sc : Scope} {t e : Expr} {sb : List Stmt} {pos : Pos} (sx : SX c N X) (hs : X.env.scope = sc) (h1 : chkT sc N tg t = true) (h2 : noSet e = true) (h3 : chkIt c N sc it (isTp tg) e = true) (hb : PSs X sb (tSms X.K c.Φ c.C c.lm body)) :
    PS X (.For t e sb [] pos) (tSm X.K c.Φ c.C c.lm (.forr tg it body)) := by
  have hl : ∀ y, locB sc y = true → Loc X.env.scope y ∧ (X.fn y = true ∨ X.env.scope.names.lookup y = some .local) := fun y hy => ⟨locB_of (by rw [hs]; exact hy), sx.nm y (by rw [hs]; exact hy)⟩
  have hi := sndIt it sc (isTp tg) e t X sx.toGX hs (fun ht => by
    cases tg with
    | nm i => cases ht
    | tp l =>
      cases t <;> first | exact absurd h1 Bool.false_ne_true | exact ⟨_, _, _, rfl⟩) h3
  refine psI (ps_for sx.po sx.calm hi (sndG tg t X sx.N sx.nd sx.calm hl h1) hb (noSet_fold h2)) fun D σ H ⟨as, Hi0, H0, Hi, ρ, E, k, w, ed⟩ => ?_
  refine ⟨as, Hi, _, k.y.see, wpIt_mono (gx_mono c) it _ (fun ds q hlen J H1 Hi1 g1 hJ => ?_) w⟩
  have k1 := k.step g1
  let WF := wpFor (wpBind tg) (fun ρ' E' => wpSs c.Φ c.C body ρ' E') E
  let G := fun (i : Nat) (σ : St) (H : Hp) => i ≤ ds.length ∧ ∃ as' Hi' ρ', SOk X.K c.lm as' Hi0 H0 Hi' H σ ρ' ∧ Same Hi1 Hi' ∧ (c.lm = false → as' = as) ∧ WF (ds.drop i) ρ'
  refine ⟨fun i m σ H => m = ds.length - i ∧ G i σ H, ⟨_, rfl, Nat.zero_le _, as, Hi1, ρ, k1, Same.refl _, fun _ => rfl, q⟩, fun i m σ1 Hc ⟨hm, hi, as', Hi', ρ', k', s', ha, w'⟩ => ?_⟩
  have ed' := ed.mono (g1.imm.trans s') ha
  by_cases hi2 : i < ds.length
  · refine .inr ⟨hJ.goes i Hc hi2 (s'.trans k'.y.sub), G (i + 1), fun σ2 H2 g => ⟨ds.length - (i + 1), by omega, rfl, g⟩, fun x H2 hy => ?_⟩
    obtain ⟨d, Hi2, hd, g2, hx⟩ := hJ.ylds as' i Hc x H2 Hi' hi2 s' k'.y.toWo hy
    have hdr : ds.drop i = d :: ds.drop (i + 1) := by
      obtain ⟨_, e⟩ := List.getElem?_eq_some_iff.mp hd
      rw [List.drop_eq_getElem_cons hi2, e]
    rw [hdr] at w'
    have k2 := k'.step g2
    refine bind_y k2.y hx w' fun ρ2 σ2 q2 y2 => ?_
    refine ⟨as', Hi0, H0, Hi2, ρ2, _, ⟨k2.go, y2, k2.fr⟩, q2, ?_⟩
    have nn : ∀ (a3 : Option Addr) (ρ3 : List S) (σ3 : St) (H3 Hi3 : Hp), WF (ds.drop (i + 1)) ρ3 → SOk X.K c.lm a3 Hi0 H0 Hi3 H3 σ3 ρ3 → Same Hi2 Hi3 → (c.lm = false → a3 = as') → G (i + 1) σ3 H3 :=
      fun a3 ρ3 σ3 H3 Hi3 q3 k3 s3 e3 => ⟨hi2, a3, Hi3, ρ3, k3, s'.trans (g2.imm.trans s3), fun l => (e3 l).trans (ha l), q3⟩
    have ed2 := ed'.mono g2.imm fun _ => rfl
    exact ⟨nn, ed2.rt, fun a3 ρ3 σ3 H3 Hi3 q3 k3 s3 e3 => ed2.nx a3 ρ3 σ3 H3 Hi3 q3 k3 s3 e3, nn⟩
  · have hie : i = ds.length := by omega
    rw [hie, List.drop_length] at w'
    have w' : E.nx ρ' := w'
    exact .inl ⟨by rw [hie]; exact hJ.stops Hc (s'.trans k'.y.sub), ed'.nx as' ρ' σ1 Hc Hi' w' k' (Same.refl _) fun _ => rfl⟩
theorem ss_nil : PSs X [] (tSms X.K c.Φ c.C c.lm .nil) := ⟨fun pins s σ H D I ⟨as, Hi0, H0, Hi, ρ, E, k, w, ed⟩ => pss_nil.run pins s σ H D I (ed.nx as ρ σ H Hi w k (Same.refl _) fun _ => rfl)⟩
theorem ss_cons {s : Sm} {l : Sms} {st : Stmt} {sts : List Stmt} (h1 : PS X st (tSm X.K c.Φ c.C c.lm s)) (h2 : PSs X sts (tSms X.K c.Φ c.C c.lm l)) : PSs X (st :: sts) (tSms X.K c.Φ c.C c.lm (.cons s l)) :=
  ⟨fun pins s' σ H D I ⟨as, Hi0, H0, Hi, ρ, E, k, w, ed⟩ => (pss_cons h1 h2).run pins s' σ H D I
    (⟨as, Hi0, H0, Hi, ρ, _, k, w, fun a2 ρ2 σ2 H2 Hi2 q k2 s2 e2 => ⟨a2, Hi0, H0, Hi2, ρ2, E, k2, q, ed.mono s2 e2⟩, ed.rt, ed.bk, ed.ct⟩ : tSm X.K c.Φ c.C c.lm s { D with nx := tSms X.K c.Φ c.C c.lm l D } σ H)⟩
mutual
theorem sndS : ∀ (s : Sm) (sc : Scope) (st : Stmt), SX c N X → X.env.scope = sc → chkS c N sc s st = true → PS X st (tSm X.K c.Φ c.C c.lm s)
  | .set pk i x, sc, st, sx, hs, h => by
    unfold chkS at h
    split at h
    · simp only [Bool.and_eq_true, decide_eq_true_eq] at h
      exact s_set sx hs h.1.1.1 h.1.1.2 h.1.2 h.2
    · cases h
  | .seto i x, sc, st, sx, hs, h => by
    unfold chkS at h
    split at h
    · simp only [Bool.and_eq_true, decide_eq_true_eq] at h
      exact s_seto sx hs h.1.1.1.1 h.1.1.1.2 h.1.1.2 h.1.2 h.2
    · cases h
  | .asg tg x, sc, st, sx, hs, h => by
    unfold chkS at h
    split at h
    · simp only [Bool.and_eq_true] at h
      exact s_asg sx hs h.1.1.1.1 h.1.1.1.2 h.1.1.2 h.1.2 h.2
    · cases h
  | .par l xs, sc, st, sx, hs, h => by
    unfold chkS at h
    split at h
    · simp only [Bool.and_eq_true, decide_eq_true_eq] at h
      exact s_par sx hs h.1.1.1 h.1.1.2 h.1.2 h.2
    · cases h
  | .app pk i x, sc, st, sx, hs, h => by
    unfold chkS at h
    split at h
    · simp only [Bool.and_eq_true, beq_iff_eq] at h
      obtain ⟨⟨⟨⟨h1, rfl⟩, h3⟩, h4⟩, h5⟩ := h
      exact s_app sx hs h1 (by simpa using h3) h4 h5
    · cases h
  | .seti pk i k x, sc, st, sx, hs, h => by
    unfold chkS at h
    split at h
    · simp only [Bool.and_eq_true] at h
      exact s_seti sx hs h.1.1.1.1 h.1.1.1.2 h.1.1.2 h.1.2 h.2
    · cases h
  | .expr x, sc, st, sx, hs, h => by
    unfold chkS at h
    split at h
    · simp only [Bool.and_eq_true] at h
      exact s_expr sx hs h.1 h.2
    · cases h
  | .ret x, sc, st, sx, hs, h => by
    unfold chkS at h
    split at h
    · exact s_ret sx hs h
    · cases h
  | .reto x, sc, st, sx, hs, h => by
    unfold chkS at h
    split at h
    · simp only [Bool.and_eq_true] at h
      exact s_reto sx hs h.1 h.2
    · cases h
  | .retv i, sc, st, sx, hs, h => by
    unfold chkS at h
    split at h
    · exact s_retv sx hs h
    · cases h
  | .retn, sc, st, sx, hs, h => by
    unfold chkS at h
    split at h
    · exact s_retn
    · cases h
  | .ife x a b, sc, st, sx, hs, h => by
    unfold chkS at h
    split at h
    · rw [Bool.and_eq_true, Bool.and_eq_true] at h
      exact s_ife sx hs h.1.1 (sndSs a sc _ sx hs h.1.2) (sndSs b sc _ sx hs h.2)
    · cases h
  | .forr tg it body, sc, st, sx, hs, h => by
    unfold chkS at h
    split at h
    · rw [Bool.and_eq_true, Bool.and_eq_true, Bool.and_eq_true] at h
      exact s_forr sx hs h.1.1.1 h.1.1.2 h.1.2 (sndSs body sc _ sx hs h.2)
    · cases h
  | .whil x body, sc, st, sx, hs, h => by
    unfold chkS at h
    split at h
    · rw [Bool.and_eq_true] at h
      exact s_whil sx hs h.1 (sndSs body sc _ sx hs h.2)
    · cases h
  | .frz i s, sc, st, sx, hs, h => by
    unfold chkS at h
    refine psI (sndS s sc st sx hs h) fun D σ H ⟨as, Hi0, H0, Hi, ρ, E, k, w, ed⟩ => ?_
    unfold wpS at w
    split at w
    · rename_i ds q
      obtain ⟨Hi', s', g', y'⟩ := k.y.frz k.go q
      exact ⟨as, Hi0, H0, Hi', _, E, ⟨g', y', k.fr⟩, w, ed.mono s' fun _ => rfl⟩
    · exact w.elim
  | .news i j x, sc, st, sx, hs, h => by
    unfold chkS at h
    split at h
    · rename_i y p1 f z p e cp pos
      simp only [Bool.and_eq_true, decide_eq_true_eq] at h
      obtain ⟨p0, rfl, g1, g2⟩ := isGl_of h.1.1.1.2
      exact s_news sx hs h.1.1.1.1.1.1 h.1.1.1.1.1.2 h.1.1.1.1.2 g1 h.1.1.2 h.1.2 h.2
    · cases h
  | .brk, sc, st, sx, hs, h => by
    unfold chkS at h
    split at h
    · exact s_brk
    · cases h
  | .cnt, sc, st, sx, hs, h => by
    unfold chkS at h
    split at h
    · exact s_cnt
    · cases h
  | .pass, sc, st, sx, hs, h => by
    unfold chkS at h
    split at h
    · exact s_pass
    · cases h
  | .never, sc, st, sx, hs, h => psI ps_never fun D σ H ⟨as, Hi0, H0, Hi, ρ, E, k, w, ed⟩ => w
theorem sndSs : ∀ (l : Sms) (sc : Scope) (sts : List Stmt), SX c N X → X.env.scope = sc → chkSs c N sc l sts = true → PSs X sts (tSms X.K c.Φ c.C c.lm l)
  | .nil, sc, sts, sx, hs, h => by
    cases sts with
    | nil => exact ss_nil
    | cons _ _ => exact absurd h Bool.false_ne_true
  | .cons s l, sc, sts, sx, hs, h => by
    cases sts with
    | nil => exact absurd h Bool.false_ne_true
    | cons st sts =>
      unfold chkSs at h
      rw [Bool.and_eq_true] at h
      exact ss_cons (sndS s sc st sx hs h.1) (sndSs l sc sts sx hs h.2)
end
end
end SW

namespace SW
open PySem PySem.Spec PyProof.Rows L2

theorem zip_look {α : Type} : ∀ {ps : List Str} {us : List α} {x : Str}, us.length = ps.length → x ∈ ps → ∃ u, (ps.zip us).lookup x = some u
  | [], _, _, _, h => by cases h
  | p :: ps, [], _, h, _ => by cases h
  | p :: ps, u :: us, x, hl, h => by
    rw [List.zip_cons_cons, List.lookup_cons]
    cases e : x == p with
    | true => exact ⟨u, rfl⟩
    | false =>
      have : x ∈ ps := by
        rcases List.mem_cons.mp h with r | r
        · subst r; simp at e
        · exact r
      exact zip_look (by simpa using hl) this
theorem fm_congr {α β : Type} {f g : α → Option β} : ∀ {l : List α}, (∀ x ∈ l, f x = g x) → l.filterMap f = l.filterMap g
  | [], _ => rfl
  | x :: l, h => by
    rw [List.filterMap_cons, List.filterMap_cons, h x List.mem_cons_self, fm_congr fun y hy => h y (List.mem_cons_of_mem _ hy)]
theorem zip_fm {α : Type} : ∀ {ps : List Str} {us : List α}, us.length = ps.length → ps.Nodup → ps.filterMap (fun n => ((ps.zip us).lookup n).map fun v => (n, v)) = ps.zip us
  | [], us, h, _ => by simp
  | p :: ps, [], h, _ => by cases h
  | p :: ps, u :: us, hl, hn => by
    rw [List.zip_cons_cons]
    have hp : p ∉ ps := (List.nodup_cons.mp hn).1
    rw [List.filterMap_cons_some (b := (p, u)) (by simp [List.lookup_cons])]
    congr 1
    refine Eq.trans ?_ (zip_fm (us := us) (by simpa using hl) (List.nodup_cons.mp hn).2)
    exact fm_congr fun x hx => by
      have : (x == p) = false := by simp; exact fun e => hp (e ▸ hx)
      rw [List.lookup_cons, this]
def simpleArgs (ps : List Str) (a : Arguments) : Bool := match a with
  | ⟨[], as, none, [], [], none, []⟩ => decide (as.map (·.arg) = ps)
  | _ => false
theorem bind_simple {x qual : Str} {ar : Arguments} {bd : List Stmt} {sc : Scope} {kV doc pm : Value} {an : Option Addr} {cdv ct : Value} {ps : List Str} {us : List Value} (ha : simpleArgs ps ar = true) (hn : ps.Nodup) (hl : us.length = ps.length) :
    bindArgs (PySem.W.fnOf x qual ar bd sc .none kV doc pm an cdv ct) ⟨us, []⟩ = pure (ps.zip us) := by
  unfold simpleArgs at ha
  split at ha
  · rename_i as
    have ha := of_decide_eq_true ha
    unfold bindArgs
    have hm : ((ps.take ps.length).filter fun n => ((ps.zip us).lookup n).isNone) = [] := by
      rw [List.take_length, List.filter_eq_nil_iff]
      intro y hy
      obtain ⟨u, e⟩ := zip_look (us := us) hl hy
      rw [e]
      simp
    have hf := zip_fm hl hn
    simp only [PySem.W.fnOf, List.map_nil, List.nil_append, List.append_nil, ha, List.forIn_nil, pure_bind, seqItems?]
    have h0 : (notAStandIn Value.none >>= fun _ => (pure none : Sem (Option (Array Value)))) = pure none := rfl
    rw [h0]
    simp only [pure_bind, Option.getD_none, List.length_nil, List.drop_nil, Nat.sub_zero, Nat.zero_sub, Option.isNone_none, Bool.and_true, hl, hm, hf, List.isEmpty_nil, Bool.not_true, List.zip_nil_right, List.forIn_nil, List.drop_length, List.zip_nil_left, gt_iff_lt, Nat.lt_irrefl, decide_false, Bool.false_eq_true, if_false]
  · cases ha
end SW

namespace SW
open PySem PySem.Spec PyProof.Rows L2

/-! ### the two helpers that hold the source of draws -/
abbrev nE (x : Str) (p : Pos) : Expr := .Name x p
abbrev iE (i : Int) (k : Nat) (p : Pos) : Expr := .Constant (.int i) k p
abbrev c1E (f : Str) (a : Expr) (p q : Pos) : Expr := .Call (.Name f p) [a] [] q
abbrev sE (x : Str) (i : Int) (p : Pos) (k : Nat) (p1 p2 : Pos) : Expr := .Subscript (.Name x p) (.Constant (.int i) k p1) p2
abbrev drawB (p1 p2 p3 p4 p5 p6 p7 p8 p9 p10 p11 p12 p13 p14 p15 p16 p17 p18 p19 p20 p21 p22 p23 p24 p25 p26 p27 p28 p29 p30 p31 p32 p33 p34 p35 p36 p37 p38 p39 p40 p41 p42 p43 p44 p45 p46 p47 p48 p49 p50 p51 p52 p53 p54 p55 p56 p57 : Pos) (k1 k2 k3 k4 k5 k6 k7 k8 k9 k10 k11 k12 k13 : Nat) : List Stmt :=
  [.If (.Compare (sE "source" 0 p1 k1 p2 p3) [.Gt] [iE 0 k2 p4] p5)
    [.Assign [nE "drawn" p6] (.BinOp (c1E "int" (sE "source" 0 p7 k3 p8 p9) p10 p11) .Mod (nE "size" p12) p13) p14,
     .Assign [sE "source" 0 p15 k4 p16 p17] (.BinOp (sE "source" 0 p18 k5 p19 p20) .FloorDiv (nE "size" p21) p22) p23,
     .Return (some (nE "drawn" p24)) p25] [] p26,
   .Assign [sE "source" 1 p27 k6 p28 p29] (.BinOp (c1E "int" (.BinOp (sE "source" 1 p30 k7 p31 p32) .Mult (iE 48271 k8 p33) p34) p35 p36) .Mod (iE 2147483647 k9 p37) p38) p39,
   .Return (some (.BinOp (c1E "int" (.BinOp (.BinOp (c1E "int" (.BinOp (sE "source" 1 p40 k10 p41 p42) .Mult (sE "source" 1 p43 k11 p44 p45) p46) p47 p48) .Mod (iE 2147483629 k12 p49) p50) .FloorDiv (iE 64 k13 p51) p52) p53 p54) .Mod (nE "size" p55) p56)) p57]
section
variable {P : Program} {w : World} {K : PySem.W.Frag} {mg : Str → Option Value} {base : Heap}
theorem vis_loc {sc : Scope} {x : Str} (h : locB sc x = true) : visB sc x = true := by
  unfold locB at h
  unfold visB
  split at h
  · rename_i q; rw [q]
  · rename_i q; rw [q]
  · cases h
abbrev mkFn (x : Str) (ar : Arguments) (bd : List Stmt) (sc : Scope) : Stmt := .FunctionDef x ar bd [] none [] sc none x ⟨0, 0, 0, 0⟩
theorem two_at0 {x y : Int} : atI [V.int x, V.int y] 0 = some (.int x) := rfl
theorem two_at1 {x y : Int} : atI [V.int x, V.int y] 1 = some (.int y) := rfl
set_option maxHeartbeats 2000000 in
theorem cal_draw {Φ : Phi} {Γ : Nat → Option Fn} {C : Con} {m : Nat} (hΦ : Φ = wpCall Γ C (m + 1)) {ar : Arguments} {sc : Scope} {f : Addr} {fd : FuncData} {k : Nat}
    {p1 p2 p3 p4 p5 p6 p7 p8 p9 p10 p11 p12 p13 p14 p15 p16 p17 p18 p19 p20 p21 p22 p23 p24 p25 p26 p27 p28 p29 p30 p31 p32 p33 p34 p35 p36 p37 p38 p39 p40 p41 p42 p43 p44 p45 p46 p47 p48 p49 p50 p51 p52 p53 p54 p55 p56 p57 : Pos} {k1 k2 k3 k4 k5 k6 k7 k8 k9 k10 k11 k12 k13 : Nat} {bd : List Stmt}
    (hb : bd = drawB p1 p2 p3 p4 p5 p6 p7 p8 p9 p10 p11 p12 p13 p14 p15 p16 p17 p18 p19 p20 p21 p22 p23 p24 p25 p26 p27 p28 p29 p30 p31 p32 p33 p34 p35 p36 p37 p38 p39 p40 p41 p42 p43 p44 p45 p46 p47 p48 p49 p50 p51 p52 p53 p54 p55 p56 p57 k1 k2 k3 k4 k5 k6 k7 k8 k9 k10 k11 k12 k13)
    (F : C8.Def K mg "_law_draw" (mkFn "_law_draw" ar bd sc) f fd) (b : Binds K fd ["source", "size"] []) (S : FnScope ["source", "size", "drawn"] ["source", "size"] sc) (v0 : visB sc "source" = true) (v1 : visB sc "size" = true) (v2 : locB sc "drawn" = true) (g : glB sc "int" = true) (hm : mg "int" = none) :
    C8.Cal P w K mg base (k + 1) "_law_draw" (spF K Φ 1 2) [] := by
  subst hb
  refine C8.cal0 (N := ["source", "size", "drawn"]) F b .nil S (fun vs H Q E h => h.1) fun cdv A outer s H vs Q E hr h => ?_
  obtain ⟨hl, as, Hi, args, wo, pr, h⟩ := h
  subst hΦ
  replace h : wpDraw args (QR K as Hi H Q) := h
  unfold wpDraw at h
  split at h
  · rename_i n
    obtain ⟨⟨hn0, hn1⟩, q⟩ := h
    cases pr with
    | cons r1 pr =>
      cases pr with
      | cons r2 pr =>
        cases pr
        rename_i u1 u2
        obtain ⟨a, ha, rfl⟩ : ∃ a, as = some a ∧ u1 = .ref a := r1
        have r2 : Rp K Hi u2 (.int n) := r2
        cases r2
        obtain ⟨hia, x, y, hxy, so⟩ := wo.src a ha
        obtain ⟨so1, so2, so3⟩ := so
        have V0 : ∀ p, PE (cxOf C8.CX0 P w K mg base ["source", "size", "drawn"] "_law_draw" sc f cdv A outer s H E).nox (.Name "source" p) (tVar 0) := fun p => pe_var rfl (visB_of v0)
        have V1 : ∀ p, PE (cxOf C8.CX0 P w K mg base ["source", "size", "drawn"] "_law_draw" sc f cdv A outer s H E).nox (.Name "size" p) (tVar 1) := fun p => pe_var rfl (visB_of v1)
        have V2 : ∀ p, PE (cxOf C8.CX0 P w K mg base ["source", "size", "drawn"] "_law_draw" sc f cdv A outer s H E).nox (.Name "drawn" p) (tVar 2) := fun p => pe_var rfl (visB_of (vis_loc v2))
        have gi : Gl (cxOf C8.CX0 P w K mg base ["source", "size", "drawn"] "_law_draw" sc f cdv A outer s H E).nox "int" := glB_of g
        have mi : (cxOf C8.CX0 P w K mg base ["source", "size", "drawn"] "_law_draw" sc f cdv A outer s H E).nox.mg "int" = none := hm
        have px : ∀ {i : Int} {k : Nat} {p : Pos}, PlainIx (.Constant (.int i) k p) := fun {i k p} o i' => rfl
        refine ⟨_, pss_cons (ps_if (pt_cmpR op_gt (pe_ix ix_list (V0 _) pe_int px) pe_int rfl)
            (pss_cons (ps_set (i := 2) S.nd rfl (locB_of v2) (pe_op op_mod (pe_callTy call_int1 gi mi PyProof.Rows.boot_int (pa_cons (pe_ix ix_list (V0 _) pe_int px) pa_nil)) (V1 _)))
            (pss_cons (ps_asg (pe_op op_fdiv (pe_ix ix_list (V0 _) pe_int px) (V1 _)) (pg_sub (V0 _) pe_int set_list))
            (pss_one (ps_ret (V2 _))))) pss_nil)
          (pss_cons (ps_asg (pe_op op_mod (pe_callTy call_int1 gi mi PyProof.Rows.boot_int (pa_cons (pe_op op_mul (pe_ix ix_list (V0 _) pe_int px) pe_int) pa_nil)) pe_int) (pg_sub (V0 _) pe_int set_list))
          (pss_one (ps_ret (pe_op op_mod (pe_callTy call_int1 gi mi PyProof.Rows.boot_int (pa_cons (pe_op op_fdiv (pe_op op_mod (pe_callTy call_int1 gi mi PyProof.Rows.boot_int (pa_cons (pe_op op_mul (pe_ix ix_list (V0 _) pe_int px) (pe_ix ix_list (V0 _) pe_int px)) pa_nil)) pe_int) pe_int) pa_nil)) (V1 _))))), ?_⟩
        have hst : start ["source", "size", "drawn"] [V.ref a, V.int n] = [some (.ref a), some (.int n), none] := rfl
        rw [hst]
        refine ⟨.ref a, rfl, a, _, 0, _, rfl, rfl, SqL.of hxy, two_at0, x, 0, rfl, rfl, _, rfl, ?_⟩
        have fin : ∀ (x' y' kk : Int), SrcOk x' y' → 0 ≤ kk → kk < n → Q (.int kk) (upd H a (.lst [.int x', .int y'])) := fun x' y' kk so' h0 h1 => by
          refine q kk h0 h1 (.int kk) _ Hi ⟨Same.refl _, fun c o hc => ?_, fun c o hc hne => ?_, fun c _ hc => hc, fun c hc => ?_⟩ (.int _)
          · rw [upd_ne (ne_of_none hc hia)]; exact wo.sub _ _ hc
          · rw [upd_ne (fun e => hne (by rw [e]; exact ha))]; exact hc
          · rw [ha] at hc; cases hc; exact ⟨x', y', upd_same, so'⟩
        refine ite2 (fun hx => ?_) (fun hx => ?_)
        · have hx : (0 : Int) < x := of_decide_eq_true hx
          refine ⟨.ref a, rfl, a, _, 0, _, rfl, rfl, SqL.of hxy, two_at0, .inl ⟨x, rfl, _, rfl, x, n, rfl, rfl, hn0, ?_⟩⟩
          refine ⟨.ref a, rfl, a, _, 0, _, rfl, rfl, SqL.of hxy, two_at0, _, rfl, x, n, rfl, rfl, ⟨hn0, hn1⟩, ?_⟩
          refine ⟨.ref a, rfl, a, _, 0, 0, rfl, rfl, hxy, rfl, ?_⟩
          refine ⟨_, rfl, ?_⟩
          exact fin (x / n) y (x % n) ⟨Int.ediv_nonneg (by omega) (by omega), so2, so3⟩ (Int.emod_nonneg _ (by omega)) (Int.emod_lt_of_pos _ hn0)
        · refine ⟨.ref a, rfl, a, _, 1, _, rfl, rfl, SqL.of hxy, two_at1, y, _, rfl, rfl, .inr ⟨by decide, by decide⟩, .inl ⟨_, rfl, _, _, rfl, rfl, show (0 : Int) < 2147483647 by decide, ?_⟩⟩
          refine ⟨.ref a, rfl, a, _, 1, 1, rfl, rfl, hxy, rfl, ?_⟩
          have hy0 := Int.emod_nonneg (y * 48271) (show (2147483647 : Int) ≠ 0 by decide)
          have hy1 := Int.emod_lt_of_pos (y * 48271) (show (0 : Int) < 2147483647 by decide)
          have hu : (upd H a (.lst (List.set [V.int x, V.int y] 1 (.int (y * 48271 % 2147483647))))) a = some (.lst [.int x, .int (y * 48271 % 2147483647)]) := upd_same
          refine ⟨.ref a, rfl, a, _, 1, _, rfl, rfl, SqL.of hu, two_at1, .ref a, rfl, a, _, 1, _, rfl, rfl, SqL.of hu, two_at1, _, _, rfl, rfl, .inl ⟨by omega, by omega⟩, .inl ⟨_, rfl, _, _, rfl, rfl, show (0 : Int) < 2147483629 by decide, _, _, rfl, rfl, ⟨by decide, by decide⟩, .inl ⟨_, rfl, _, rfl, _, _, rfl, rfl, hn0, ?_⟩⟩⟩
          exact fin x _ _ ⟨so1, hy0, by omega⟩ (Int.emod_nonneg _ (by omega)) (Int.emod_lt_of_pos _ hn0)
  · exact h.elim

abbrev srcB (p1 p2 p3 p4 p5 p6 p7 p8 p9 p10 p11 p12 p13 p14 p15 p16 p17 p18 p19 p20 p21 p22 p23 p24 p25 p26 p27 p28 p29 p30 p31 p32 p33 p34 p35 p36 p37 p38 p39 p40 p41 p42 p43 p44 p45 p46 p47 p48 p49 p50 : Pos) (k1 k2 k3 k4 k5 k6 k7 k8 k9 k10 : Nat) : List Stmt :=
  [.Assign [nE "cell" p1] (iE 0 k1 p2) p3,
   .If (.Compare (nE "index" p4) [.Lt] [c1E "len" (nE "script" p5) p6 p7] p8) [.Assign [nE "cell" p9] (c1E "abs" (.Subscript (nE "script" p10) (nE "index" p11) p12) p13 p14) p15] [] p16,
   .If (.Compare (nE "cell" p17) [.Lt] [.BinOp (iE 10 k2 p18) .Pow (iE 18 k3 p19) p20] p21)
     [.Return (some (.List [iE 0 k4 p22, .BinOp (iE 1 k5 p23) .Add (.BinOp (c1E "int" (.BinOp (.BinOp (nE "cell" p24) .Mult (iE 7919 k6 p25) p26) .Add (.BinOp (iE 104729 k7 p27) .Mult (nE "index" p28) p29) p30) p31 p32) .Mod (iE 2147483646 k8 p33) p34) p35] p36)) p37] [] p38,
   .Return (some (.List [nE "cell" p39, .BinOp (iE 1 k9 p40) .Add (.BinOp (c1E "int" (.BinOp (nE "cell" p41) .Add (nE "index" p42) p43) p44 p45) .Mod (iE 2147483646 k10 p46) p47) p48] p49)) p50]
abbrev rInt : List V → Hp → VK → Prop := fun xs H Q => (∃ i, xs = [V.int i] ∧ Q (V.int i) H) ∨ ∃ k, xs = [V.bl k] ∧ Q (V.int (if k = true then 1 else 0)) H
abbrev tAdd (a b : TE) : TE := tOp (rI0 fun i j => .int (i + j)) a b
abbrev tMod (a b : TE) : TE := tOp (rI (fun _ j => 0 < j) fun i j => .int (i % j)) a b
abbrev tMul (a b : TE) : TE := tOp (rI CMul fun i j => .int (i * j)) a b
theorem src_tail {H : Hp} {Q : VK} {a : Addr} {n z : Int} (hz : 0 ≤ z) (q : ∀ (p : Addr) (x y : Int), SrcOk x y → H p = none → Q (V.ref p) (upd H p (HO.lst [V.int x, V.int y]))) :
    tSeq (tIfS (tTest (tOp (rI0 fun i j => V.bl (decide (i < j))) (tVar 2) (tOp (rI CPow fun i j => V.int (i ^ j.toNat)) (tC (V.int 10)) (tC (V.int 18)))))
      (tRet (tLst (tCons (tC (V.int 0)) (tCons (tAdd (tC (V.int 1)) (tMod (tCB rInt (tCons (tAdd (tMul (tVar 2) (tC (V.int 7919))) (tMul (tC (V.int 104729)) (tVar 1))) tNil)) (tC (V.int 2147483646)))) tNil)))) tNext)
      (tRet (tLst (tCons (tVar 2) (tCons (tAdd (tC (V.int 1)) (tMod (tCB rInt (tCons (tAdd (tVar 2) (tVar 1)) tNil)) (tC (V.int 2147483646)))) tNil)))) { nx := fun _ H' => Q V.non H', rt := Q } [some (V.ref a), some (V.int n), some (V.int z)] H := by
  have md : ∀ t : Int, 0 ≤ t % 2147483646 ∧ t % 2147483646 < 2147483646 := fun t => ⟨Int.emod_nonneg _ (by decide), Int.emod_lt_of_pos _ (by decide)⟩
  refine ⟨.int z, rfl, 10, 18, rfl, rfl, ⟨by decide, by decide, by decide⟩, z, _, rfl, rfl, _, rfl, ite2 (fun hx => ?_) (fun hx => ?_)⟩
  · have hx : z < 10 ^ (18 : Int).toNat := of_decide_eq_true hx
    have e18 : (10 : Int) ^ (18 : Int).toNat = 1000000000000000000 := by decide
    rw [e18] at hx
    refine ⟨.int z, rfl, z, 7919, rfl, rfl, .inr ⟨by decide, by decide⟩, .int n, rfl, 104729, n, rfl, rfl, .inl ⟨by decide, by decide⟩, _, _, rfl, rfl, .inl ⟨_, rfl, _, _, rfl, rfl, show (0 : Int) < 2147483646 by decide, 1, _, rfl, rfl, show (2 : Nat) ≤ sizeLine by decide, fun p hp => ?_⟩⟩
    have := md (z * 7919 + 104729 * n)
    exact q p 0 _ ⟨Int.le_refl _, by omega, by omega⟩ hp
  · refine ⟨.int z, rfl, .int z, rfl, .int n, rfl, z, n, rfl, rfl, .inl ⟨_, rfl, _, _, rfl, rfl, show (0 : Int) < 2147483646 by decide, 1, _, rfl, rfl, show (2 : Nat) ≤ sizeLine by decide, fun p hp => ?_⟩⟩
    have := md (z + n)
    exact q p z _ ⟨hz, by omega, by omega⟩ hp
set_option maxHeartbeats 2000000 in
theorem cal_src {ar : Arguments} {sc : Scope} {f : Addr} {fd : FuncData} {k : Nat}
    {p1 p2 p3 p4 p5 p6 p7 p8 p9 p10 p11 p12 p13 p14 p15 p16 p17 p18 p19 p20 p21 p22 p23 p24 p25 p26 p27 p28 p29 p30 p31 p32 p33 p34 p35 p36 p37 p38 p39 p40 p41 p42 p43 p44 p45 p46 p47 p48 p49 p50 : Pos} {k1 k2 k3 k4 k5 k6 k7 k8 k9 k10 : Nat} {bd : List Stmt}
    (hb : bd = srcB p1 p2 p3 p4 p5 p6 p7 p8 p9 p10 p11 p12 p13 p14 p15 p16 p17 p18 p19 p20 p21 p22 p23 p24 p25 p26 p27 p28 p29 p30 p31 p32 p33 p34 p35 p36 p37 p38 p39 p40 p41 p42 p43 p44 p45 p46 p47 p48 p49 p50 k1 k2 k3 k4 k5 k6 k7 k8 k9 k10)
    (F : C8.Def K mg "_law_source" (mkFn "_law_source" ar bd sc) f fd) (b : Binds K fd ["script", "index"] []) (S : FnScope ["script", "index", "cell"] ["script", "index"] sc) (v0 : visB sc "script" = true) (v1 : visB sc "index" = true) (v2 : locB sc "cell" = true)
    (g : glB sc "int" = true) (ga : glB sc "abs" = true) (gl : glB sc "len" = true) (hm : mg "int" = none) (hma : mg "abs" = none) (hml : mg "len" = none) :
    C8.Cal P w K mg base (k + 1) "_law_source" (spSrc K) [] := by
  subst hb
  refine C8.cal0 (N := ["script", "index", "cell"]) F b .nil S (fun vs H Q E h => ?_) fun cdv A outer s H vs Q E hr h => ?_
  · obtain ⟨a, ns, k, rfl, _⟩ := h
    rfl
  obtain ⟨a, ns, n, rfl, hs, ⟨hn0, hn1⟩, q⟩ := h
  have V0 : ∀ p, PE (cxOf C8.CX0 P w K mg base ["script", "index", "cell"] "_law_source" sc f cdv A outer s H E).nox (.Name "script" p) (tVar 0) := fun p => pe_var rfl (visB_of v0)
  have V1 : ∀ p, PE (cxOf C8.CX0 P w K mg base ["script", "index", "cell"] "_law_source" sc f cdv A outer s H E).nox (.Name "index" p) (tVar 1) := fun p => pe_var rfl (visB_of v1)
  have V2 : ∀ p, PE (cxOf C8.CX0 P w K mg base ["script", "index", "cell"] "_law_source" sc f cdv A outer s H E).nox (.Name "cell" p) (tVar 2) := fun p => pe_var rfl (visB_of (vis_loc v2))
  have gi : Gl (cxOf C8.CX0 P w K mg base ["script", "index", "cell"] "_law_source" sc f cdv A outer s H E).nox "int" := glB_of g
  have mi : (cxOf C8.CX0 P w K mg base ["script", "index", "cell"] "_law_source" sc f cdv A outer s H E).nox.mg "int" = none := hm
  have gA : Gl (cxOf C8.CX0 P w K mg base ["script", "index", "cell"] "_law_source" sc f cdv A outer s H E).nox "abs" := glB_of ga
  have mA : (cxOf C8.CX0 P w K mg base ["script", "index", "cell"] "_law_source" sc f cdv A outer s H E).nox.mg "abs" = none := hma
  have gL : Gl (cxOf C8.CX0 P w K mg base ["script", "index", "cell"] "_law_source" sc f cdv A outer s H E).nox "len" := glB_of gl
  have mL : (cxOf C8.CX0 P w K mg base ["script", "index", "cell"] "_law_source" sc f cdv A outer s H E).nox.mg "len" = none := hml
  refine ⟨_, pss_cons (ps_set (i := 2) S.nd rfl (locB_of v2) pe_int)
    (pss_cons (ps_if (pt_cmpR op_lt (V1 _) (pe_callB call_len_seq gL mL boot_len (pa_cons (V0 _) pa_nil)) rfl)
      (pss_one (ps_set (i := 2) S.nd rfl (locB_of v2) (pe_callB call_abs gA mA boot_abs (pa_cons (pe_ix ix_seq (V0 _) (V1 _) (fun o i' => rfl)) pa_nil)))) pss_nil)
    (pss_cons (ps_if (pt_cmpR op_lt (V2 _) (pe_op op_pow pe_int pe_int) rfl)
      (pss_one (ps_ret (pe_lst (pa_cons pe_int (pa_cons (pe_op op_add pe_int (pe_op op_mod (pe_callTy call_int1 gi mi PyProof.Rows.boot_int (pa_cons (pe_op op_add (pe_op op_mul (V2 _) pe_int) (pe_op op_mul pe_int (V1 _))) pa_nil)) pe_int)) pa_nil))))) pss_nil)
    (pss_one (ps_ret (pe_lst (pa_cons (V2 _) (pa_cons (pe_op op_add pe_int (pe_op op_mod (pe_callTy call_int1 gi mi PyProof.Rows.boot_int (pa_cons (pe_op op_add (V2 _) (V1 _)) pa_nil)) pe_int)) pa_nil))))))), ?_⟩
  have hst : start ["script", "index", "cell"] [V.ref a, V.int n] = [some (.ref a), some (.int n), none] := rfl
  rw [hst]
  have md : ∀ t : Int, 0 ≤ t % 2147483646 ∧ t % 2147483646 < 2147483646 := fun t => ⟨Int.emod_nonneg _ (by decide), Int.emod_lt_of_pos _ (by decide)⟩
  refine ⟨_, rfl, _, rfl, a, _, rfl, .inl hs, n, _, rfl, rfl, _, rfl, ?_⟩
  refine ite2 (fun hx => ?_) (fun hx => ?_)
  · have hx : n < ((ns.map V.int).length : Nat) := of_decide_eq_true hx
    rw [List.length_map] at hx
    have hat : ∃ u, atI (ns.map V.int) n = some (.int u) := by
      obtain ⟨j, rfl⟩ : ∃ j : Nat, n = (j : Int) := ⟨n.toNat, by omega⟩
      have hj : j < ns.length := by omega
      refine ⟨ns[j], atI_nat ?_⟩
      rw [List.getElem?_map, List.getElem?_eq_getElem hj]
      rfl
    obtain ⟨u, hat⟩ := hat
    refine ⟨.ref a, rfl, .int n, rfl, .inl ⟨a, _, n, _, rfl, rfl, hs, hat, _, rfl, ?_⟩⟩
    exact src_tail (by split <;> omega) q
  · exact src_tail (Int.le_refl 0) q
end
end SW

namespace SW
open PySem PySem.Spec PyProof.Rows L2

def FnFact (K : PySem.W.Frag) (mg : Str → Option Value) (x : Str) (ar : Arguments) (bd : List Stmt) (sc : Scope) : Prop := ∃ f fd, C8.Def K mg x (mkFn x ar bd sc) f fd ∧ ∀ ps, simpleArgs ps ar = true → ps.Nodup → Binds K fd ps [] ∧ ∀ us : List Value, us.length = ps.length → bindArgs fd ⟨us, []⟩ = pure (ps.zip us)
theorem fnFact_of {K : PySem.W.Frag} {h : Heap} {mg : Str → Option Value} {x : Str} {ar : Arguments} {bd : List Stmt} {sc : Scope} {f : Addr} {oc : Value} {od an : Option Addr} {osl : Array (Option Value)} {kV doc pm cdv ct : Value} (X : K.In h) (G : h.Ns mainGlobals mg)
    (a : PySem.W.nsIn K mainGlobals x = some (some (.ref f))) (l : K.lookup f = some ⟨oc, od, .func (PySem.W.fnOf x x ar bd sc .none kV doc pm an cdv ct), osl⟩) (c : PySem.W.codeIn K cdv x = true) (k : PySem.W.keepIn K (.ref f) = true) : FnFact K mg x ar bd sc :=
  ⟨f, _, ⟨⟨⟨oc, od, .none, kV, doc, pm, an, cdv, ct, osl, rfl, l, c⟩⟩, PySem.W.mg_of X G a, k⟩, fun ps h hn => ⟨Binds.all fun us hl => bind_simple h hn hl, fun us hl => bind_simple h hn hl⟩⟩
def chkFn (c : Cfg0) (F : Fn) (ar : Arguments) (bd : List Stmt) (sc : Scope) : Bool := simpleArgs (F.N.take F.np) ar && C8.scC F.N (F.N.take F.np) sc && decide (F.np ≤ F.N.length) && chkSs c F.N sc F.body bd
inductive Facts (K : PySem.W.Frag) (mg : Str → Option Value) (c : Cfg0) : List Nat → Prop
  | nil : Facts K mg c []
  | cons {f : Nat} {l : List Nat} {F : Fn} {ar : Arguments} {bd : List Stmt} {sc : Scope} : c.Γ f = some F → FnFact K mg F.name ar bd sc → chkFn c F ar bd sc = true → Facts K mg c l → Facts K mg c (f :: l)
theorem Facts.get {K : PySem.W.Frag} {mg : Str → Option Value} {c : Cfg0} {l : List Nat} (h : Facts K mg c l) : ∀ f ∈ l, ∃ F ar bd sc, c.Γ f = some F ∧ FnFact K mg F.name ar bd sc ∧ chkFn c F ar bd sc = true := by
  induction h with
  | nil => intro f hf; cases hf
  | cons h1 h2 h3 _ ih =>
    intro f hf
    rcases List.mem_cons.mp hf with rfl | hf
    · exact ⟨_, _, _, _, h1, h2, h3⟩
    · exact ih f hf
structure Wd (K : PySem.W.Frag) (mg : Str → Option Value) (c : Cfg0) : Prop where
  blt : ∀ x ∈ bltNames, mg x = none
  con : ∀ k ∈ c.cs, ∃ d u v, c.C k = some d ∧ mg (c.cn k) = some u ∧ RelV v u ∧ ∀ Hi, Rp K Hi v d
  lm : c.lm = false
  d1 : ∀ F, c.Γ 1 = some F → F.name = "_law_draw" ∧ F.np = 2
  draw : ∀ (P : Program) (w : World) (base : Heap) (k m : Nat), C8.Cal P w K mg base (k + 1) "_law_draw" (spF K (wpCall c.Γ c.C (m + 1)) 1 2) []
  src : ∀ (P : Program) (w : World) (base : Heap) (k : Nat), C8.Cal P w K mg base (k + 1) "_law_source" (spSrc K) []
  fns : ∃ l, Facts K mg c l ∧ ∀ f ∈ c.fs, f = 1 ∨ f ∈ l
section
variable {K : PySem.W.Frag} {mg : Str → Option Value} {c : Cfg0} {P : Program} {w : World} {base : Heap}
theorem paired_get {α β : Type} {R : α → β → Prop} : ∀ {l₁ : List α} {l₂ : List β}, Paired R l₁ l₂ → ∀ (i : Nat) (b : β), l₂[i]? = some b → ∃ a, l₁[i]? = some a ∧ R a b
  | _, _, .nil, i, b, h => by simp at h
  | _, _, .cons r rs, 0, b, h => by simp at h; subst h; exact ⟨_, rfl, r⟩
  | _, _, .cons r rs, i + 1, b, h => by simpa using paired_get rs i b (by simpa using h)
theorem getS_get : ∀ (ρ : List S) (i : Nat), getS ρ i = (ρ[i]?).getD .no
  | [], _ => rfl
  | _ :: _, 0 => rfl
  | _ :: l, i + 1 => by
    have := getS_get l i
    simp only [List.getElem?_cons_succ]
    exact this
/-- a def's start: its arguments, no own list -/
theorem y_start {as : Option Addr} {Hi H : Hp} {vs : List V} {args : List S} {N : List Str} {np : Nat} (w : Wo as Hi H) (pr : Paired (ArgR K as Hi) vs args) (hl : args.length = np) (hnp : np ≤ N.length) :
    YOk K as H Hi H (L2.start N vs) (args ++ List.replicate (N.length - np) .no) := by
  have hvl : vs.length = args.length := Paired.length pr
  have gs : ∀ i, getS (args ++ List.replicate (N.length - np) .no) i = .no ∨ ∃ s, args[i]? = some s ∧ getS (args ++ List.replicate (N.length - np) .no) i = s := fun i => by
    rw [getS_get]
    by_cases hi : i < args.length
    · refine .inr ⟨args[i], by simp [hi], ?_⟩
      rw [List.getElem?_append_left hi]
      simp [hi]
    · refine .inl ?_
      rw [List.getElem?_append_right (by omega)]
      cases e : (List.replicate (N.length - np) S.no)[i - args.length]? with
      | none => rfl
      | some s => rw [List.getElem?_replicate] at e; split at e <;> cases e; rfl
  have no : ∀ i ds, getS (args ++ List.replicate (N.length - np) .no) i ≠ .own ds := fun i ds e => by
    rcases gs i with q | ⟨s, q1, q2⟩
    · rw [q] at e; cases e
    · rw [q2] at e
      subst e
      obtain ⟨v, _, r⟩ := paired_get pr i _ q1
      exact r
  refine { toWo := w, len := ?_, slot := fun i => ?_, own := fun i ds e => absurd e (no i ds), dis := fun i j ds es a e => absurd e (no i ds) }
  · unfold L2.start
    simp [hvl]
    omega
  · rcases gs i with q | ⟨s, q1, q2⟩
    · rw [q]; trivial
    · rw [q2]
      obtain ⟨v, hv, r⟩ := paired_get pr i _ q1
      have hst : (L2.start N vs)[i]? = some (some v) := by
        unfold L2.start
        rw [List.getElem?_append_left (by rw [List.length_map]; exact (List.getElem?_eq_some_iff.mp hv).1), List.getElem?_map, hv]
        rfl
      cases s with
      | no => trivial
      | own ds => trivial
      | src => obtain ⟨a, h1, rfl⟩ := r; exact ⟨a, h1, hst⟩
      | scr ns => obtain ⟨a, rfl, h1⟩ := r; exact ⟨a, hst, h1⟩
      | val d => exact ⟨v, hst, r⟩
theorem cal_no {x : Str} {k : Nat} {sp sp' : Sp} (h : C8.Cal P w K mg base k x sp []) (no : ∀ vs H Q E, ¬ sp' vs H Q E) (j : Nat) : C8.Cal P w K mg base j x sp' [] := by
  obtain ⟨f, fd, ps, ds, F, m, kp, b, d⟩ := h.ex
  exact ⟨f, fd, ps, ds, ⟨fun vs H Q E q => absurd q (no _ _ _ _), fun A outer s H args us vs Q E _ _ _ _ q => absurd q (no _ _ _ _)⟩, m, kp, b, d⟩
theorem cal_no2 {x : Str} {ar : Arguments} {bd : List Stmt} {sc : Scope} {ps : List Str} {sp' : Sp} (h : FnFact K mg x ar bd sc) (ha : simpleArgs ps ar = true) (hn : ps.Nodup) (no : ∀ vs H Q E, ¬ sp' vs H Q E) (j : Nat) : C8.Cal P w K mg base j x sp' [] := by
  obtain ⟨f, fd, D, b⟩ := h
  exact ⟨f, fd, ps, [], ⟨fun vs H Q E q => absurd q (no _ _ _ _), fun A outer s H args us vs Q E _ _ _ _ q => absurd q (no _ _ _ _)⟩, D.mgf, D.kp, (b ps ha hn).1, .nil⟩
theorem chkFn_of {F : Fn} {ar : Arguments} {bd : List Stmt} {sc : Scope} (h : chkFn c F ar bd sc = true) : simpleArgs (F.N.take F.np) ar = true ∧ FnScope F.N (F.N.take F.np) sc ∧ F.np ≤ F.N.length ∧ chkSs c F.N sc F.body bd = true := by
  unfold chkFn at h
  simp only [Bool.and_eq_true, decide_eq_true_eq] at h
  exact ⟨h.1.1.1, C8.fnScope_by h.1.1.2, h.1.2, h.2⟩
/-- the context of a def's body is good -/
theorem sx_of {N ps : List Str} {x : Str} {sc : Scope} {f : Addr} {cdv : Value} {A : Around} {outer : List Env} {s : Shared} {H : Hp} {E : XK} {n : Nat} {lm : Bool} (W : Wd K mg c) (S : FnScope N ps sc) (hr : Room n (A.deeper (envOfC x sc s.heap.objs.size f cdv)))
    (cals : ∀ f ∈ c.fs, ∀ F, c.Γ f = some F → C8.Cal P w K mg base n F.name (spF K (wpCall c.Γ c.C n) f F.np) []) (hs : lm = true → C8.Cal P w K mg base n "_law_source" (spSrc K) []) :
    SX ({ toCfg0 := { c with lm := lm }, n := n } : Cfg) N (cxOf C8.CX0 P w K mg base N x sc f cdv A outer s H E).nox :=
  { N := rfl, nd := S.nd, calm := rfl, room := hr, blt := W.blt, fns := cals, src := hs, con := W.con, po := PassesOwn.never, nm := fun _ _ => .inl rfl }
theorem cals (W : Wd K mg c) : ∀ (n : Nat), ∀ f ∈ c.fs, ∀ F, c.Γ f = some F → C8.Cal P w K mg base n F.name (spF K (wpCall c.Γ c.C n) f F.np) []
  | n, f, hf, F, e => by
    obtain ⟨l, fl, cov⟩ := W.fns
    have none0 : ∀ Φ : Phi, (∀ args Q, ¬ Φ f args Q) → ∀ vs H Q E, ¬ spF K Φ f F.np vs H Q E := fun Φ no vs H Q E ⟨_, as, Hi, args, _, _, h⟩ => no _ _ h
    by_cases h1 : f = 1
    · subst h1
      obtain ⟨e1, e2⟩ := W.d1 F e
      rw [e1, e2]
      cases n with
      | zero =>
        rw [e2] at none0
        exact cal_no (W.draw P w base 0 0) (none0 _ fun _ _ h => h) 0
      | succ n => exact W.draw P w base n n
    · obtain ⟨F', ar, bd, sc, g1, g2, g3⟩ := fl.get f ((cov f hf).resolve_left h1)
      rw [e] at g1
      cases g1
      obtain ⟨ha, Sc, hnp, hc⟩ := chkFn_of g3
      have hnd : (F.N.take F.np).Nodup := (List.take_sublist _ _).nodup Sc.nd
      cases n with
      | zero => exact cal_no2 g2 ha hnd (none0 _ fun _ _ h => h) 0
      | succ n =>
        cases f with
        | zero => exact cal_no2 g2 ha hnd (none0 _ fun _ _ h => h) _
        | succ f =>
          cases f with
          | zero => exact absurd rfl h1
          | succ f =>
            obtain ⟨fa, fd, D, b⟩ := g2
            refine C8.cal0 (N := F.N) D (b _ ha hnd).1 .nil Sc (fun vs H Q E h => by rw [h.1, List.length_take]; omega) fun cdv A outer s H vs Q E hr h => ?_
            obtain ⟨hl, as, Hi, args, wo, pr, h⟩ := h
            have h : wpDef (wpCall c.Γ c.C n) c.C F args (QR K as Hi H Q) := by
              have h' : (match c.Γ (f + 2) with
                | some F => wpDef (wpCall c.Γ c.C n) c.C F args (QR K as Hi H Q)
                | none => False) := h
              rw [e] at h'
              exact h'
            obtain ⟨hal, h⟩ := h
            have sx := sx_of (lm := false) (outer := outer) (H := H) (E := E) W Sc hr (cals W n) (fun z => absurd z (by decide))
            have lmf := W.lm
            have hcc : ({ c with lm := false } : Cfg0) = c := by
              cases c
              cases lmf
              rfl
            refine ⟨_, sndSs F.body sc bd sx rfl (by
              show chkSs { c with lm := false } F.N sc F.body bd = true
              rw [hcc]; exact hc), ?_⟩
            refine ⟨as, Hi, H, Hi, _, _, ⟨Go.refl wo, y_start wo pr hal hnp, fun z => absurd (show false = true from z) Bool.false_ne_true⟩, h, ?_⟩
            refine ⟨fun as' ρ' σ' H' Hi' q k s' ea => ?_, fun as' r v H' Hi' q g rr ea => ?_, fun as' ρ' σ' H' Hi' q k s' ea => q, fun as' ρ' σ' H' Hi' q k s' ea => q⟩
            · have q : QD K as Hi H Q .none := q
              have := ea rfl
              subst this
              exact q .non H' Hi' k.go .non
            · have := ea rfl
              subst this
              cases r with
              | val d => exact (show QD K as' Hi H Q d from q) v H' Hi' g rr
              | own ds =>
                obtain ⟨p, rfl, o1, o2, o3, xs, o4, o5⟩ := rr
                exact (show QF K as' Hi H Q ds from q) p xs H' Hi' g o1 o2 o3 o4 o5
              | no => exact rr.elim
              | src => exact rr.elim
              | scr ns => exact rr.elim
def spLaw (K : PySem.W.Frag) : Sp := fun vs H Q _ => ∃ (a : Addr) (ns : List Int), vs = [.ref a] ∧ SqL K H a (ns.map V.int) ∧ ns.length ≤ 63 ∧ ∀ H', Q (.bl true) H'
def lawEnd : End := ⟨fun _ => False, fun r => r = .val (.bool true), fun _ => False, fun _ => False⟩
theorem law_fn {N : List Str} {body : Sms} {ar : Arguments} {bd : List Stmt} {sc : Scope} {n : Nat} {fa : Addr} (W : Wd K mg c) (hfa : mg "law" = some (.ref fa)) (L : FnFact K mg "law" ar bd sc) (chk : chkFn { c with lm := true } ⟨"law", 1, N, body⟩ ar bd sc = true) (h0 : N.take 1 = [("script" : Str)])
    (h : ∀ ns : List Int, ns.length ≤ 63 → wpSs (wpCall c.Γ c.C (n + 1)) c.C body (.scr ns :: List.replicate (N.length - 1) .no) lawEnd) :
    ∃ fd : FuncData, (∀ (s : Shared) (u : Value), BindsTo s fd ⟨[u], []⟩ [("script", u)]) ∧ ∀ (P : Program) (w : World) (base : Heap), FnOk P w K mg base C8.CX0 (n + 2) fa fd ["script"] (spLaw K) := by
  obtain ⟨f, fd, D, b⟩ := L
  have e := D.mgf
  rw [hfa] at e
  cases e
  obtain ⟨ha, Sc, hnp, hc⟩ := chkFn_of chk
  have ha : simpleArgs [("script" : Str)] ar = true := by rw [← h0]; exact ha
  have Sc : FnScope N [("script" : Str)] sc := by rw [← h0]; exact Sc
  have hnp : 1 ≤ N.length := hnp
  refine ⟨fd, fun s u => .of_eq ((b ["script"] ha (by decide)).2 [u] rfl), fun P w base => ?_⟩
  refine C8.fn0 (N := N) D.fn Sc (fun vs H Q E h => ?_) fun cdv A outer s H vs Q E hr hsp => ?_
  · obtain ⟨a, ns, rfl, _⟩ := h
    rfl
  · obtain ⟨a, ns, rfl, hs, hlen, q⟩ := hsp
    have sx := sx_of (lm := true) (outer := outer) (H := H) (E := E) W Sc hr (cals W (n + 1)) (fun _ => W.src P w base n)
    refine ⟨_, sndSs body sc bd sx rfl hc, ?_⟩
    have wo : Wo none H H := ⟨Same.refl _, fun a e => by cases e⟩
    have y := y_start (K := K) (N := N) (np := 1) (vs := [V.ref a]) (args := [.scr ns]) wo (.cons ⟨a, rfl, hs⟩ .nil) rfl hnp
    refine ⟨none, H, H, H, _, lawEnd, ⟨Go.refl wo, y, fun _ a e => by cases e⟩, h ns hlen, ?_⟩
    refine ⟨fun as' ρ' σ' H' Hi' q k s' ea => q.elim, fun as' r v H' Hi' e g rr ea => ?_, fun as' ρ' σ' H' Hi' q k s' ea => q.elim, fun as' ρ' σ' H' Hi' q k s' ea => q.elim⟩
    have e : r = .val (.bool true) := e
    subst e
    have rr : Rp K Hi' v (.bool true) := rr
    cases rr
    exact q H'
end
end SW

namespace SW
open PySem PySem.Spec PyProof.Rows L2

inductive NBs (K : PySem.W.Frag) : List Str → Prop
  | nil : NBs K []
  | cons {x : Str} {l : List Str} : PySem.W.nsIn K mainGlobals x = some none → NBs K l → NBs K (x :: l)
inductive DFs (K : PySem.W.Frag) (c : Cfg0) : List Nat → Prop
  | nil : DFs K c []
  | cons {f : Nat} {l : List Nat} {F : Fn} {x : Str} {ar : Arguments} {bd : List Stmt} {sc : Scope} {a : Addr} {oc : Value} {od an : Option Addr} {osl : Array (Option Value)} {kV doc pm cdv ct : Value} : c.Γ f = some F → F.name = x →
      PySem.W.nsIn K mainGlobals x = some (some (.ref a)) → K.lookup a = some ⟨oc, od, .func (PySem.W.fnOf x x ar bd sc .none kV doc pm an cdv ct), osl⟩ → PySem.W.codeIn K cdv x = true → PySem.W.keepIn K (.ref a) = true → chkFn c F ar bd sc = true → DFs K c l → DFs K c (f :: l)
inductive CFs (K : PySem.W.Frag) (c : Cfg0) : List Nat → Prop
  | nil : CFs K c []
  | int {k : Nat} {l : List Nat} {x : Str} {i : Int} {t : Tok} : c.C k = some (.int i) → c.cn k = x → PySem.W.nsIn K mainGlobals x = some (some (.int i t)) → CFs K c l → CFs K c (k :: l)
  | str {k : Nat} {l : List Nat} {x : Str} {i : Str} {t : Tok} : c.C k = some (.str i) → c.cn k = x → PySem.W.nsIn K mainGlobals x = some (some (.str i t)) → CFs K c l → CFs K c (k :: l)
section
variable {K : PySem.W.Frag} {c : Cfg0} {h : Heap} {mg : Str → Option Value}
theorem NBs.get (X : K.In h) (G : h.Ns mainGlobals mg) {l : List Str} (n : NBs K l) : ∀ x ∈ l, mg x = none := by
  induction n with
  | nil => intro x hx; cases hx
  | cons e _ ih =>
    intro x hx
    rcases List.mem_cons.mp hx with rfl | hx
    · exact PySem.W.mg_none_of X G e
    · exact ih x hx
theorem DFs.facts (X : K.In h) (G : h.Ns mainGlobals mg) {l : List Nat} (n : DFs K c l) : Facts K mg c l := by
  induction n with
  | nil => exact .nil
  | cons e1 e2 a b d k ch _ ih => subst e2; exact .cons e1 (fnFact_of X G a b d k) ch ih
theorem CFs.get (X : K.In h) (G : h.Ns mainGlobals mg) {l : List Nat} (n : CFs K c l) : ∀ k ∈ l, ∃ d u v, c.C k = some d ∧ mg (c.cn k) = some u ∧ RelV v u ∧ ∀ Hi, Rp K Hi v d := by
  induction n with
  | nil => intro x hx; cases hx
  | int e1 e2 a _ ih =>
    intro k hk
    rcases List.mem_cons.mp hk with rfl | hk
    · exact ⟨_, _, .int _, e1, by rw [e2]; exact PySem.W.mg_of X G a, ⟨_, rfl⟩, fun _ => .int _⟩
    · exact ih k hk
  | str e1 e2 a _ ih =>
    intro k hk
    rcases List.mem_cons.mp hk with rfl | hk
    · exact ⟨_, _, .str _, e1, by rw [e2]; exact PySem.W.mg_of X G a, ⟨_, rfl⟩, fun _ => .str _⟩
    · exact ih k hk
theorem law_all {N : List Str} {body : Sms} {n : Nat} {fa : Addr} (X : K.In h) (G : h.Ns mainGlobals mg) (hfa : mg "law" = some (.ref fa))
    {l : List Nat} (nb : NBs K bltNames) (cf : CFs K c c.cs) (df : DFs K c l) (cov : ∀ f ∈ c.fs, f = 1 ∨ f ∈ l) (hlm : c.lm = false) (d1 : ∀ F, c.Γ 1 = some F → F.name = "_law_draw" ∧ F.np = 2)
    -- the law
    {ar : Arguments} {bd : List Stmt} {sc : Scope} {a : Addr} {oc : Value} {od an : Option Addr} {osl : Array (Option Value)} {kV doc pm cdv ct : Value} (l1 : PySem.W.nsIn K mainGlobals "law" = some (some (.ref a))) (l2 : K.lookup a = some ⟨oc, od, .func (PySem.W.fnOf "law" "law" ar bd sc .none kV doc pm an cdv ct), osl⟩) (l3 : PySem.W.codeIn K cdv "law" = true) (l4 : PySem.W.keepIn K (.ref a) = true)
    (chk : chkFn { c with lm := true } ⟨"law", 1, N, body⟩ ar bd sc = true) (h0 : N.take 1 = [("script" : Str)])
    -- the source
    {ars : Arguments} {bds : List Stmt} {scs : Scope} {as' : Addr} {ocs : Value} {ods ans : Option Addr} {osls : Array (Option Value)} {kVs docs pms cdvs cts : Value} (s1 : PySem.W.nsIn K mainGlobals "_law_source" = some (some (.ref as'))) (s2 : K.lookup as' = some ⟨ocs, ods, .func (PySem.W.fnOf "_law_source" "_law_source" ars bds scs .none kVs docs pms ans cdvs cts), osls⟩) (s3 : PySem.W.codeIn K cdvs "_law_source" = true) (s4 : PySem.W.keepIn K (.ref as') = true)
    {p1 p2 p3 p4 p5 p6 p7 p8 p9 p10 p11 p12 p13 p14 p15 p16 p17 p18 p19 p20 p21 p22 p23 p24 p25 p26 p27 p28 p29 p30 p31 p32 p33 p34 p35 p36 p37 p38 p39 p40 p41 p42 p43 p44 p45 p46 p47 p48 p49 p50 : Pos} {k1 k2 k3 k4 k5 k6 k7 k8 k9 k10 : Nat}
    (s5 : bds = srcB p1 p2 p3 p4 p5 p6 p7 p8 p9 p10 p11 p12 p13 p14 p15 p16 p17 p18 p19 p20 p21 p22 p23 p24 p25 p26 p27 p28 p29 p30 p31 p32 p33 p34 p35 p36 p37 p38 p39 p40 p41 p42 p43 p44 p45 p46 p47 p48 p49 p50 k1 k2 k3 k4 k5 k6 k7 k8 k9 k10)
    (s6 : (simpleArgs ["script", "index"] ars && C8.scC ["script", "index", "cell"] ["script", "index"] scs && visB scs "script" && visB scs "index" && locB scs "cell" && glB scs "int" && glB scs "abs" && glB scs "len") = true)
    -- the draw
    {ard : Arguments} {bdd : List Stmt} {scd : Scope} {ad : Addr} {ocd : Value} {odd and' : Option Addr} {osld : Array (Option Value)} {kVd docd pmd cdvd ctd : Value} (w1 : PySem.W.nsIn K mainGlobals "_law_draw" = some (some (.ref ad))) (w2 : K.lookup ad = some ⟨ocd, odd, .func (PySem.W.fnOf "_law_draw" "_law_draw" ard bdd scd .none kVd docd pmd and' cdvd ctd), osld⟩) (w3 : PySem.W.codeIn K cdvd "_law_draw" = true) (w4 : PySem.W.keepIn K (.ref ad) = true)
    {q1 q2 q3 q4 q5 q6 q7 q8 q9 q10 q11 q12 q13 q14 q15 q16 q17 q18 q19 q20 q21 q22 q23 q24 q25 q26 q27 q28 q29 q30 q31 q32 q33 q34 q35 q36 q37 q38 q39 q40 q41 q42 q43 q44 q45 q46 q47 q48 q49 q50 q51 q52 q53 q54 q55 q56 q57 : Pos} {m1 m2 m3 m4 m5 m6 m7 m8 m9 m10 m11 m12 m13 : Nat}
    (w5 : bdd = drawB q1 q2 q3 q4 q5 q6 q7 q8 q9 q10 q11 q12 q13 q14 q15 q16 q17 q18 q19 q20 q21 q22 q23 q24 q25 q26 q27 q28 q29 q30 q31 q32 q33 q34 q35 q36 q37 q38 q39 q40 q41 q42 q43 q44 q45 q46 q47 q48 q49 q50 q51 q52 q53 q54 q55 q56 q57 m1 m2 m3 m4 m5 m6 m7 m8 m9 m10 m11 m12 m13)
    (w6 : (simpleArgs ["source", "size"] ard && C8.scC ["source", "size", "drawn"] ["source", "size"] scd && visB scd "source" && visB scd "size" && locB scd "drawn" && glB scd "int") = true)
    (hwp : ∀ ns : List Int, ns.length ≤ 63 → wpSs (wpCall c.Γ c.C (n + 1)) c.C body (.scr ns :: List.replicate (N.length - 1) .no) lawEnd) :
    ∃ fd : FuncData, (∀ (s : Shared) (u : Value), BindsTo s fd ⟨[u], []⟩ [("script", u)]) ∧ ∀ (P : Program) (w : World) (base : Heap), FnOk P w K mg base C8.CX0 (n + 2) fa fd ["script"] (spLaw K) := by
  have nbg := nb.get X G
  simp only [Bool.and_eq_true] at s6 w6
  obtain ⟨⟨⟨⟨⟨⟨⟨s7, s8⟩, s9⟩, s10⟩, s11⟩, s12⟩, s13⟩, s14⟩ := s6
  obtain ⟨⟨⟨⟨⟨w7, w8⟩, w9⟩, w10⟩, w11⟩, w12⟩ := w6
  have W : Wd K mg c := {
    blt := nbg, con := cf.get X G, lm := hlm, d1 := d1,
    draw := fun P w base k m => by
      obtain ⟨f, fd, D, b⟩ := fnFact_of X G w1 w2 w3 w4
      exact cal_draw rfl w5 D (b _ w7 (by decide)).1 (C8.fnScope_by w8) w9 w10 w11 w12 (nbg "int" (by simp [bltNames]))
    src := fun P w base k => by
      obtain ⟨f, fd, D, b⟩ := fnFact_of X G s1 s2 s3 s4
      exact cal_src s5 D (b _ s7 (by decide)).1 (C8.fnScope_by s8) s9 s10 s11 s12 s13 s14 (nbg "int" (by simp [bltNames])) (nbg "abs" (by simp [bltNames])) (nbg "len" (by simp [bltNames]))
    fns := ⟨l, df.facts X G, cov⟩ }
  exact law_fn W hfa (fnFact_of X G l1 l2 l3 l4) chk h0 hwp
end
end SW

namespace SWL
open PySem SW
def F11 : Fn := ⟨"_law_asker", 1, ["source"], (.cons (.ret (.tup (.cons (.calls 12 0 (.cons (.int 4) .nil)) (.cons (.calls 16 0 (.cons (.int 3) .nil)) .nil))))  .nil)⟩  -- _law_asker
def F12 : Fn := ⟨"_law_kind_wishes", 2, ["source", "most", "found", "some", "wish_so", "main", "sub"], (.cons (.par [(2, true), (3, false)] (.cons (.lst .nil) (.cons (.lst (.cons (.tup (.cons (.str "a") (.cons (.str "*") .nil))) (.cons (.tup (.cons (.str "b") (.cons (.str "*") .nil))) (.cons (.tup (.cons (.str "*") (.cons (.str "*") .nil))) (.cons (.tup (.cons (.str "a") (.cons (.str "a") .nil))) (.cons (.tup (.cons (.str "a") (.cons (.str "b") .nil))) (.cons (.tup (.cons (.str "b") (.cons (.str "c") .nil))) (.cons (.tup (.cons (.str "c") (.cons (.str "a") .nil))) .nil)))))))) .nil)))  (.cons (.forr (.nm 4) (.rng1 (.calls 1 0 (.cons (.bin .Add (.var 1) (.int 1)) .nil))) (.cons (.asg (.tp (.cons (.nm 5) (.cons (.nm 6) .nil))) (.calls 13 0 (.cons (.var 3) .nil)))  (.cons (.app false 2 (.tup (.cons (.var 5) (.cons (.var 6) (.cons (.calls 15 0 .nil) .nil)))))  .nil)))  (.cons (.ret (.call 14 (.cons (.var 2) .nil)))  .nil)))⟩  -- _law_kind_wishes
def F13 : Fn := ⟨"_law_choice", 2, ["source", "items"], (.cons (.ret (.ix (.var 1) (.calls 1 0 (.cons (.b1 .len (.var 1)) .nil))))  .nil)⟩  -- _law_choice
def F14 : Fn := ⟨"_law_once", 1, ["wishes", "found", "wish", "one"], (.cons (.seto 1 (.lst .nil))  (.cons (.forr (.nm 2) (.seq (.var 0)) (.cons (.ife (.cmp .NotIn (.slT (.var 2) (.int 2)) (.comp (.slT (.var 3) (.int 2)) (.nm 3) (.seq (.var 1)) .nil [("one", 3)])) (.cons (.app false 1 (.var 2))  .nil) .nil)  .nil))  (.cons (.ret (.b1 .tuple (.var 1)))  .nil)))⟩  -- _law_once
def F15 : Fn := ⟨"_law_share", 1, ["source"], (.cons (.ret (.calls 13 0 (.cons (.lst (.cons (.int 0) (.cons (.int 1) (.cons (.int 2) (.cons (.int 4) (.cons (.int 5) (.cons (.int 8) (.cons (.int 10) (.cons (.calls 1 0 (.cons (.int 11) .nil)) .nil))))))))) .nil)))  .nil)⟩  -- _law_share
def F16 : Fn := ⟨"_law_tongue_wishes", 2, ["source", "most", "found", "some", "wish_so", "language", "region"], (.cons (.par [(2, true), (3, false)] (.cons (.lst .nil) (.cons (.lst (.cons (.tup (.cons (.str "a") (.cons (.str "") .nil))) (.cons (.tup (.cons (.str "b") (.cons (.str "") .nil))) (.cons (.tup (.cons (.str "*") (.cons (.str "") .nil))) (.cons (.tup (.cons (.str "a") (.cons (.str "a") .nil))) (.cons (.tup (.cons (.str "a") (.cons (.str "b") .nil))) (.cons (.tup (.cons (.str "b") (.cons (.str "c") .nil))) (.cons (.tup (.cons (.str "c") (.cons (.str "") .nil))) .nil)))))))) .nil)))  (.cons (.forr (.nm 4) (.rng1 (.calls 1 0 (.cons (.bin .Add (.var 1) (.int 1)) .nil))) (.cons (.asg (.tp (.cons (.nm 5) (.cons (.nm 6) .nil))) (.calls 13 0 (.cons (.var 3) .nil)))  (.cons (.app false 2 (.tup (.cons (.var 5) (.cons (.var 6) (.cons (.calls 15 0 .nil) .nil)))))  .nil)))  (.cons (.ret (.call 14 (.cons (.var 2) .nil)))  .nil)))⟩  -- _law_tongue_wishes
def F17 : Fn := ⟨"_law_is_list", 2, ["value", "side", "seen", "wish", "first", "second", "fine"], (.cons (.ife (.bop .Or (.cons (.not (.isi (.var 0) .tup)) (.cons (.cmp .Gt (.b1 .len (.var 0)) (.int 6)) .nil))) (.cons (.ret (.bl false))  .nil) .nil)  (.cons (.seto 2 (.lst .nil))  (.cons (.forr (.nm 3) (.seq (.var 0)) (.cons (.ife (.bop .Or (.cons (.not (.isi (.var 3) .tup)) (.cons (.cmp .NotEq (.b1 .len (.var 3)) (.int 3)) (.cons (.not (.call 18 (.cons (.ix (.var 3) (.int 2)) (.cons (.int 0) (.cons (.int 10) .nil))))) .nil)))) (.cons (.ret (.bl false))  .nil) .nil)  (.cons (.par [(4, false), (5, false)] (.cons (.ix (.var 3) (.int 0)) (.cons (.ix (.var 3) (.int 1)) .nil)))  (.cons (.ife (.cmp .Eq (.var 1) (.int 0)) (.cons (.set false 6 (.bop .And (.cons (.call 20 (.cons (.var 4) .nil)) (.cons (.bop .Or (.cons (.call 20 (.cons (.var 5) .nil)) (.cons (.call 19 (.cons (.var 5) (.cons (.str "*") .nil))) .nil))) .nil))))  (.cons (.set false 6 (.bop .Or (.cons (.var 6) (.cons (.bop .And (.cons (.call 19 (.cons (.var 4) (.cons (.str "*") .nil))) (.cons (.call 19 (.cons (.var 5) (.cons (.str "*") .nil))) .nil))) .nil))))  .nil)) (.cons (.set false 6 (.bop .And (.cons (.call 20 (.cons (.var 4) .nil)) (.cons (.bop .Or (.cons (.call 20 (.cons (.var 5) .nil)) (.cons (.call 19 (.cons (.var 5) (.cons (.str "") .nil))) .nil))) .nil))))  (.cons (.set false 6 (.bop .Or (.cons (.var 6) (.cons (.bop .And (.cons (.call 19 (.cons (.var 4) (.cons (.str "*") .nil))) (.cons (.call 19 (.cons (.var 5) (.cons (.str "") .nil))) .nil))) .nil))))  .nil)))  (.cons (.ife (.bop .Or (.cons (.not (.var 6)) (.cons (.cmp .In (.tup (.cons (.var 4) (.cons (.var 5) .nil))) (.var 2)) .nil))) (.cons (.ret (.bl false))  .nil) .nil)  (.cons (.app false 2 (.tup (.cons (.var 4) (.cons (.var 5) .nil))))  .nil))))))  (.cons (.ret (.bl true))  .nil))))⟩  -- _law_is_list
def F18 : Fn := ⟨"_law_is_between", 3, ["value", "low", "high"], (.cons (.ret (.bop .And (.cons (.isi (.var 0) .int) (.cons (.not (.isi (.var 0) .bool)) (.cons (.chain .LtE .LtE (.var 1) (.var 0) (.var 2)) .nil)))))  .nil)⟩  -- _law_is_between
def F19 : Fn := ⟨"_law_is_text", 2, ["value", "text"], (.cons (.ret (.bop .And (.cons (.isi (.var 0) .str) (.cons (.cmp .Eq (.var 0) (.var 1)) .nil))))  .nil)⟩  -- _law_is_text
def F20 : Fn := ⟨"_law_is_word", 1, ["value", "sign"], (.cons (.ife (.bop .Or (.cons (.not (.isi (.var 0) .str)) (.cons (.not (.chain .LtE .LtE (.int 1) (.b1 .len (.var 0)) (.int 6))) .nil))) (.cons (.ret (.bl false))  .nil) .nil)  (.cons (.ret (.cmp .Eq (.comp (.var 1) (.nm 1) (.seq (.var 0)) (.cons (.cmp .NotIn (.var 1) (.str "abcdefghijklmnopqrstuvwxyz")) .nil) [("sign", 1)]) (.lst .nil)))  .nil))⟩  -- _law_is_word
def F21 : Fn := ⟨"_law_is_shelf", 1, ["value", "make", "pair"], (.cons (.ife (.bop .Or (.cons (.not (.isi (.var 0) .tup)) (.cons (.cmp .Gt (.b1 .len (.var 0)) (.int 6)) .nil))) (.cons (.ret (.bl false))  .nil) .nil)  (.cons (.forr (.nm 1) (.seq (.var 0)) (.cons (.ife (.bop .Or (.cons (.not (.isi (.var 1) .tup)) (.cons (.cmp .NotEq (.b1 .len (.var 1)) (.int 3)) (.cons (.not (.call 18 (.cons (.ix (.var 1) (.int 2)) (.cons (.int 1) (.cons (.int 4) .nil))))) .nil)))) (.cons (.ret (.bl false))  .nil) .nil)  (.cons (.forr (.nm 2) (.seq (.slT (.var 1) (.int 2))) (.cons (.ife (.bop .Or (.cons (.not (.isi (.var 2) .tup)) (.cons (.cmp .NotEq (.b1 .len (.var 2)) (.int 2)) (.cons (.not (.call 20 (.cons (.ix (.var 2) (.int 0)) .nil))) .nil)))) (.cons (.ret (.bl false))  .nil) .nil)  .nil))  (.cons (.ife (.bop .Or (.cons (.not (.call 20 (.cons (.ix (.ix (.var 1) (.int 0)) (.int 1)) .nil))) (.cons (.not (.bop .Or (.cons (.call 20 (.cons (.ix (.ix (.var 1) (.int 1)) (.int 1)) .nil)) (.cons (.call 19 (.cons (.ix (.ix (.var 1) (.int 1)) (.int 1)) (.cons (.str "") .nil))) .nil)))) .nil))) (.cons (.ret (.bl false))  .nil) .nil)  .nil))))  (.cons (.ret (.bl true))  .nil)))⟩  -- _law_is_shelf
def F22 : Fn := ⟨"_law_parted", 2, ["source", "value", "at", "way", "some"], (.cons (.ife (.bop .And (.cons (.isi (.var 1) .tup) (.cons (.cmp .NotEq (.var 1) (.tup .nil)) (.cons (.cmp .Gt (.calls 1 0 (.cons (.int 5) .nil)) (.int 0)) .nil)))) (.cons (.set false 2 (.calls 1 0 (.cons (.b1 .len (.var 1)) .nil)))  (.cons (.set false 3 (.calls 1 0 (.cons (.int 9) .nil)))  (.cons (.ife (.cmp .Eq (.var 3) (.int 0)) (.cons (.ret (.bin .Add (.slT (.var 1) (.var 2)) (.slF (.var 1) (.bin .Add (.var 2) (.int 1)))))  .nil) .nil)  (.cons (.ife (.cmp .Eq (.var 3) (.int 1)) (.cons (.ret (.bin .Add (.slT (.var 1) (.bin .Add (.var 2) (.int 1))) (.slF (.var 1) (.var 2))))  .nil) .nil)  (.cons (.ret (.bin .Add (.bin .Add (.slT (.var 1) (.var 2)) (.tup (.cons (.calls 22 0 (.cons (.ix (.var 1) (.var 2)) .nil)) .nil))) (.slF (.var 1) (.bin .Add (.var 2) (.int 1)))))  .nil))))) .nil)  (.cons (.ife (.cmp .Eq (.calls 1 0 (.cons (.int 3) .nil)) (.int 0)) (.cons (.set false 4 (.lst (.cons .non (.cons (.bl true) (.cons (.bl false) (.cons (.int 0) (.cons (.int 1) (.cons (.int 10) (.cons (.int 11) (.cons (.neg (.int 1)) (.cons (.str "") (.cons (.str "*") (.cons (.str "a") (.cons (.str "A") (.cons (.str "aaaaaa") (.cons (.str "aaaaaaa") (.cons (.tup .nil) (.cons (.lst .nil) (.cons (.tup (.cons (.str "a") (.cons (.str "") .nil))) .nil)))))))))))))))))))  (.cons (.ret (.calls 13 0 (.cons (.var 4) .nil)))  .nil)) .nil)  (.cons (.ife (.isi (.var 1) .int) (.cons (.ret (.calls 13 0 (.cons (.lst (.cons (.bin .Add (.var 1) (.int 1)) (.cons (.bin .Sub (.var 1) (.int 1)) (.cons (.int 5) .nil)))) .nil)))  .nil) .nil)  (.cons (.ret (.ite (.isi (.var 1) .tup) (.b1 .list (.var 1)) (.lst (.cons (.var 1) .nil))))  .nil))))⟩  -- _law_parted
def F23 : Fn := ⟨"_law_shelf", 2, ["source", "most", "make_so"], (.cons (.ret (.b1 .tuple (.comp (.calls 24 0 .nil) (.nm 2) (.rng1 (.calls 1 0 (.cons (.bin .Add (.var 1) (.int 1)) .nil))) .nil [("make_so", 2)])))  .nil)⟩  -- _law_shelf
def F24 : Fn := ⟨"_law_make", 1, ["source", "kind", "tongue"], (.cons (.set false 1 (.tup (.cons (.calls 13 0 (.cons (.lst (.cons (.str "a") (.cons (.str "a") (.cons (.str "b") (.cons (.str "c") .nil))))) .nil)) (.cons (.calls 13 0 (.cons (.lst (.cons (.str "a") (.cons (.str "b") (.cons (.str "c") .nil)))) .nil)) .nil))))  (.cons (.set false 2 (.tup (.cons (.calls 13 0 (.cons (.lst (.cons (.str "a") (.cons (.str "a") (.cons (.str "b") (.cons (.str "c") .nil))))) .nil)) (.cons (.calls 13 0 (.cons (.lst (.cons (.str "") (.cons (.str "") (.cons (.str "a") (.cons (.str "b") (.cons (.str "c") .nil)))))) .nil)) .nil))))  (.cons (.ret (.tup (.cons (.var 1) (.cons (.var 2) (.cons (.bin .Add (.int 1) (.calls 1 0 (.cons (.int 4) .nil))) .nil)))))  .nil)))⟩  -- _law_make
def F25 : Fn := ⟨"is_asker", 1, ["value"], (.cons (.ret (.bop .And (.cons (.isi (.var 0) .tup) (.cons (.cmp .Eq (.b1 .len (.var 0)) (.int 2)) (.cons (.call 26 (.cons (.ix (.var 0) (.int 0)) (.cons (.int 0) .nil))) (.cons (.call 26 (.cons (.ix (.var 0) (.int 1)) (.cons (.int 1) .nil))) .nil))))))  .nil)⟩  -- is_asker
def F26 : Fn := ⟨"is_wishes", 2, ["value", "side", "wish"], (.cons (.ife (.bop .Or (.cons (.not (.isi (.var 0) .tup)) (.cons (.cmp .Gt (.b1 .len (.var 0)) (.glob 5)) (.cons (.not (.b1 .all (.comp (.call 27 (.cons (.var 2) (.cons (.var 1) .nil))) (.nm 2) (.seq (.var 0)) .nil [("wish", 2)]))) .nil)))) (.cons (.ret (.bl false))  .nil) .nil)  (.cons (.ret (.cmp .Eq (.b1 .lset (.comp (.slT (.var 2) (.int 2)) (.nm 2) (.seq (.var 0)) .nil [("wish", 2)])) (.b1 .len (.var 0))))  .nil))⟩  -- is_wishes
def F27 : Fn := ⟨"is_wish", 2, ["value", "side"], (.cons (.ife (.bop .Or (.cons (.not (.isi (.var 0) .tup)) (.cons (.cmp .NotEq (.b1 .len (.var 0)) (.int 3)) (.cons (.not (.call 28 (.cons (.ix (.var 0) (.int 2)) (.cons (.int 0) (.cons (.glob 4) .nil))))) .nil)))) (.cons (.ret (.bl false))  .nil) .nil)  (.cons (.ife (.cmp .Eq (.var 1) (.int 1)) (.cons (.ret (.bop .Or (.cons (.call 33 (.cons (.slT (.var 0) (.int 2)) .nil)) (.cons (.bop .And (.cons (.call 32 (.cons (.ix (.var 0) (.int 0)) .nil)) (.cons (.call 29 (.cons (.ix (.var 0) (.int 1)) .nil)) .nil))) .nil))))  .nil) .nil)  (.cons (.ret (.bop .Or (.cons (.call 30 (.cons (.slT (.var 0) (.int 2)) .nil)) (.cons (.bop .And (.cons (.bop .Or (.cons (.call 31 (.cons (.ix (.var 0) (.int 0)) .nil)) (.cons (.call 32 (.cons (.ix (.var 0) (.int 0)) .nil)) .nil))) (.cons (.call 32 (.cons (.ix (.var 0) (.int 1)) .nil)) .nil))) .nil))))  .nil)))⟩  -- is_wish
def F28 : Fn := ⟨"is_between", 3, ["value", "low", "high"], (.cons (.ret (.bop .And (.cons (.isi (.var 0) .int) (.cons (.not (.isi (.var 0) .bool)) (.cons (.chain .LtE .LtE (.var 1) (.var 0) (.var 2)) .nil)))))  .nil)⟩  -- is_between
def F29 : Fn := ⟨"is_empty", 1, ["value"], (.cons (.ret (.bop .And (.cons (.isi (.var 0) .str) (.cons (.cmp .Eq (.var 0) (.str "")) .nil))))  .nil)⟩  -- is_empty
def F30 : Fn := ⟨"is_kind", 1, ["value"], (.cons (.ret (.bop .And (.cons (.isi (.var 0) .tup) (.cons (.cmp .Eq (.b1 .len (.var 0)) (.int 2)) (.cons (.call 31 (.cons (.ix (.var 0) (.int 0)) .nil)) (.cons (.call 31 (.cons (.ix (.var 0) (.int 1)) .nil)) .nil))))))  .nil)⟩  -- is_kind
def F31 : Fn := ⟨"is_word", 1, ["value", "letter"], (.cons (.ret (.bop .And (.cons (.isi (.var 0) .str) (.cons (.chain .LtE .LtE (.int 1) (.b1 .len (.var 0)) (.glob 6)) (.cons (.b1 .all (.comp (.cmp .In (.var 1) (.glob 1)) (.nm 1) (.seq (.var 0)) .nil [("letter", 1)])) .nil)))))  .nil)⟩  -- is_word
def F32 : Fn := ⟨"is_star", 1, ["value"], (.cons (.ret (.bop .And (.cons (.isi (.var 0) .str) (.cons (.cmp .Eq (.var 0) (.str "*")) .nil))))  .nil)⟩  -- is_star
def F33 : Fn := ⟨"is_tongue", 1, ["value"], (.cons (.ife (.bop .Or (.cons (.not (.isi (.var 0) .tup)) (.cons (.cmp .NotEq (.b1 .len (.var 0)) (.int 2)) (.cons (.not (.call 31 (.cons (.ix (.var 0) (.int 0)) .nil))) .nil)))) (.cons (.ret (.bl false))  .nil) .nil)  (.cons (.ret (.bop .Or (.cons (.call 31 (.cons (.ix (.var 0) (.int 1)) .nil)) (.cons (.call 29 (.cons (.ix (.var 0) (.int 1)) .nil)) .nil))))  .nil))⟩  -- is_tongue
def F34 : Fn := ⟨"is_shelf", 1, ["value", "make"], (.cons (.ret (.bop .And (.cons (.isi (.var 0) .tup) (.cons (.cmp .LtE (.b1 .len (.var 0)) (.glob 2)) (.cons (.b1 .all (.comp (.call 35 (.cons (.var 1) .nil)) (.nm 1) (.seq (.var 0)) .nil [("make", 1)])) .nil)))))  .nil)⟩  -- is_shelf
def F35 : Fn := ⟨"is_make", 1, ["value"], (.cons (.ife (.bop .Or (.cons (.not (.isi (.var 0) .tup)) (.cons (.cmp .NotEq (.b1 .len (.var 0)) (.int 3)) .nil))) (.cons (.ret (.bl false))  .nil) .nil)  (.cons (.ret (.bop .And (.cons (.call 30 (.cons (.ix (.var 0) (.int 0)) .nil)) (.cons (.call 33 (.cons (.ix (.var 0) (.int 1)) .nil)) (.cons (.call 28 (.cons (.ix (.var 0) (.int 2)) (.cons (.int 1) (.cons (.glob 3) .nil)))) .nil)))))  .nil))⟩  -- is_make
end SWL

namespace SW
open PySem PySem.Spec PyProof.Rows L2
section
variable {Γ : Nat → Option Fn} {C : Con} {n : Nat}
theorem wp_call {f : Nat} {F : Fn} {args : List S} {Q : S → Prop} (h : Γ (f + 2) = some F) (hl : args.length = F.np) (w : wpSs (wpCall Γ C n) C F.body (args ++ List.replicate (F.N.length - F.np) .no) ⟨fun _ => Q (.val .none), Q, fun _ => False, fun _ => False⟩) : wpCall Γ C (n + 1) (f + 2) args Q := by
  show (match Γ (f + 2) with
    | some F => wpDef (wpCall Γ C n) C F args Q
    | none => False)
  rw [h]
  exact ⟨hl, w⟩
end
/-- a comprehension over l.map e: r the slots behind the target, p the test, g the element -/
theorem lc {α : Type} {b : D → List S → (List S → Prop) → Prop} {tt : List S → (Bool → Prop) → Prop} {te : List S → (D → Prop) → Prop} {ρ : List S} (e : α → D) (r : α → List S) (p : α → Bool) (g : α → D) : ∀ (l : List α) (acc : List D) {Q : List D → Prop},
    (∀ x ∈ l, ∀ R : List S → Prop, R (r x) → b (e x) ρ R) → (∀ x ∈ l, ∀ R : Bool → Prop, R (p x) → tt (r x) R) → (∀ x ∈ l, p x = true → ∀ R : D → Prop, R (g x) → te (r x) R) → Q (acc ++ (l.filter p).map g) → wpLC b tt te ρ (l.map e) acc Q
  | [], acc, Q, hb, ht, he, q => by simpa [wpLC] using q
  | x :: l, acc, Q, hb, ht, he, q => by
    have ih := fun acc' => lc e r p g l acc' (Q := Q) (fun x hx => hb x (List.mem_cons_of_mem _ hx)) (fun x hx => ht x (List.mem_cons_of_mem _ hx)) (fun x hx => he x (List.mem_cons_of_mem _ hx))
    refine hb x List.mem_cons_self _ (ht x List.mem_cons_self _ ?_)
    cases hp : p x with
    | true =>
      refine he x List.mem_cons_self hp _ (ih _ ?_)
      simpa [hp] using q
    | false =>
      refine ih _ ?_
      simpa [hp] using q
/-- .. without a test -/
theorem lcm {α : Type} {b : D → List S → (List S → Prop) → Prop} {te : List S → (D → Prop) → Prop} {ρ : List S} (e : α → D) (r : α → List S) (g : α → D) (l : List α) (acc : List D) {Q : List D → Prop}
    (hb : ∀ x ∈ l, ∀ R : List S → Prop, R (r x) → b (e x) ρ R) (he : ∀ x ∈ l, ∀ R : D → Prop, R (g x) → te (r x) R) (q : Q (acc ++ l.map g)) : wpLC b (fun _ K => K true) te ρ (l.map e) acc Q :=
  lc e r (fun _ => true) g l acc hb (fun _ _ _ h => h) (fun x hx _ => he x hx) (by rw [List.filter_eq_self.mpr fun _ _ => rfl]; exact q)
/-- .. over data as they are -/
theorem lcd {b : D → List S → (List S → Prop) → Prop} {te : List S → (D → Prop) → Prop} {ρ : List S} (r : D → List S) (g : D → D) (l acc : List D) {Q : List D → Prop}
    (hb : ∀ x ∈ l, ∀ R : List S → Prop, R (r x) → b x ρ R) (he : ∀ x ∈ l, ∀ R : D → Prop, R (g x) → te (r x) R) (q : Q (acc ++ l.map g)) : wpLC b (fun _ K => K true) te ρ l acc Q := by
  have := lcm (b := b) (te := te) (ρ := ρ) (fun x => x) r g l acc hb he q
  rwa [List.map_id'] at this
/-- a for: P holds of what is left -/
theorem for_rem {α : Type} {Φ : Phi} {C : Con} (hΦ : PhiMono Φ) {tg : Tg} {body : Sms} {E : End} (e : α → D) (P : List α → List S → Prop) : ∀ (l : List α) (ρ : List S),
    (∀ x r ρ, P (x :: r) ρ → wpBind tg (e x) ρ fun ρ' => wpSs Φ C body ρ' { E with nx := P r, ct := P r, bk := E.nx }) → (∀ ρ, P [] ρ → E.nx ρ) → P l ρ → wpFor (wpBind tg) (fun ρ' E' => wpSs Φ C body ρ' E') E (l.map e) ρ
  | [], ρ, hs, he, h => he ρ h
  | x :: l, ρ, hs, he, h => by
    refine wpBind_mono (fun ρ' w => ?_) tg _ ρ (hs x l ρ h)
    refine wpSs_mono hΦ body ρ' ?_ w
    exact ⟨fun ρ2 q => for_rem hΦ e P l ρ2 hs he q, fun _ q => q, fun _ q => q, fun ρ2 q => for_rem hΦ e P l ρ2 hs he q⟩
/-- a for statement: P holds of what is left -/
theorem s_for' {α : Type} {Φ : Phi} {C : Con} (hΦ : PhiMono Φ) {tg : Tg} {it : It} {body : Sms} {E : End} {ρ : List S} (e : α → D) (l : List α) (P : List α → List S → Prop) (hit : ∀ R : List D → Prop, R (l.map e) → wpIt Φ C it (see false ρ) R) (init : P l ρ)
    (step : ∀ x r ρ, P (x :: r) ρ → wpBind tg (e x) ρ fun ρ' => wpSs Φ C body ρ' { E with nx := P r, ct := P r, bk := E.nx }) (done : ∀ ρ, P [] ρ → E.nx ρ) : wpS Φ C (.forr tg it body) ρ E :=
  hit _ (for_rem hΦ e P l ρ step done init)
theorem s_forD {Φ : Phi} {C : Con} (hΦ : PhiMono Φ) {tg : Tg} {it : It} {body : Sms} {E : End} {ρ : List S} (l : List D) (P : List D → List S → Prop) (hit : ∀ R : List D → Prop, R l → wpIt Φ C it (see false ρ) R) (init : P l ρ)
    (step : ∀ x r ρ, P (x :: r) ρ → wpBind tg x ρ fun ρ' => wpSs Φ C body ρ' { E with nx := P r, ct := P r, bk := E.nx }) (done : ∀ ρ, P [] ρ → E.nx ρ) : wpS Φ C (.forr tg it body) ρ E :=
  s_for' hΦ (fun d => d) l P (fun R h => hit R (by rwa [List.map_id'] at h)) init step done
/-- an expression's value here -/
def Ev (Φ : Phi) (C : Con) (e : Ex) (ρ : List S) (d : D) : Prop := ∀ R : D → Prop, R d → wpE Φ C e ρ R
section
variable {Φ : Phi} {C : Con} {ρ : List S} {E : End} {rest : Sms}
theorem st_ife {c : Ex} {a b : Sms} (p : Bool) (hc : Ev Φ C c (see true ρ) (.bool p)) (h1 : p = true → wpSs Φ C a ρ { E with nx := fun ρ' => wpSs Φ C rest ρ' E }) (h0 : p = false → wpSs Φ C b ρ { E with nx := fun ρ' => wpSs Φ C rest ρ' E }) : wpSs Φ C (.cons (.ife c a b) rest) ρ E := by
  refine hc _ ?_
  cases p with
  | true => exact h1 rfl
  | false => exact h0 rfl
theorem st_set {pk : Bool} {i : Nat} {e : Ex} (d : D) (he : Ev Φ C e (see pk ρ) d) (hs : pk = true → scal1 d = true) (h : wpSs Φ C rest (setS ρ i (.val d)) E) : wpSs Φ C (.cons (.set pk i e) rest) ρ E := he _ ⟨hs, h⟩
theorem st_ret {e : Ex} (d : D) (he : Ev Φ C e (see true ρ) d) (h : E.rt (.val d)) : wpSs Φ C (.cons (.ret e) rest) ρ E := he _ h
theorem st_expr {e : Ex} (d : D) (he : Ev Φ C e (see true ρ) d) (h : wpSs Φ C rest ρ E) : wpSs Φ C (.cons (.expr e) rest) ρ E := he _ h
end
theorem asBools_map {α : Type} (p : α → Bool) : ∀ l : List α, asBools (l.map fun x => PyData.bool (p x)) = some (l.map p)
  | [] => rfl
  | x :: l => by simp [asBools, asBools_map p l]
theorem asInts_map {α : Type} (p : α → Int) : ∀ l : List α, asInts (l.map fun x => PyData.int (p x)) = some (l.map p)
  | [] => rfl
  | x :: l => by simp [asInts, asInts_map p l]
end SW
namespace SWL
open PySem SW
local macro_rules | `(tactic| walk_at "wp") => `(tactic| simp only [wpSs, wpS, wpE, wpEs, wpF, wpBop, wpTs, wpIt, wpBind, wpBinds, see, seeS, getS, setS, List.map_cons, List.map_nil, List.cons_append, List.nil_append, List.append_nil, List.replicate, List.length_cons, List.length_nil, Nat.reduceAdd, Nat.reduceSub, pIsi, pB, pCmp, pEq, pLe, pLt, pGt, pGe, pI, pBin, pB1, pB2, pIx, pSl, pSeq, resD, wipeS, Bool.not_true, Bool.not_false, true_and, and_true, false_implies, implies_true, forall_const, Bool.false_eq_true, Bool.true_eq_false])
structure GA (Γ : Nat → Option Fn) (C : Con) : Prop where
  h25 : Γ 25 = some F25
  h26 : Γ 26 = some F26
  h27 : Γ 27 = some F27
  h28 : Γ 28 = some F28
  h29 : Γ 29 = some F29
  h30 : Γ 30 = some F30
  h31 : Γ 31 = some F31
  h32 : Γ 32 = some F32
  h33 : Γ 33 = some F33
  c1 : C 1 = some (.str "abcdefghijklmnopqrstuvwxyz")
  c4 : C 4 = some (.int 10)
  c5 : C 5 = some (.int 6)
  c6 : C 6 = some (.int 6)
def isLet (c : Nat) : Bool := decide (c ∈ (("abcdefghijklmnopqrstuvwxyz" : Str).cps.toList))
def isWordD : D → Bool
  | .str z => decide (1 ≤ (z.length : Int)) && (decide ((z.length : Int) ≤ 6) && z.cps.toList.all isLet)
  | _ => false
def isTextD (t : Str) : D → Bool
  | .str z => decide (z = t)
  | _ => false
def isBetD (lo hi : Int) : D → Bool
  | .int i => decide (lo ≤ i) && decide (i ≤ hi)
  | _ => false
def isKindD : D → Bool
  | .tuple [a, b] => isWordD a && isWordD b
  | _ => false
def isTongueD : D → Bool
  | .tuple [a, b] => isWordD a && (isWordD b || isTextD "" b)
  | _ => false
def isWishD (side : Bool) : D → Bool
  | .tuple [a, b, c] => isBetD 0 10 c && (match side with
    | true => isTongueD (.tuple [a, b]) || (isTextD "*" a && isTextD "" b)
    | false => isKindD (.tuple [a, b]) || ((isWordD a || isTextD "*" a) && isTextD "*" b))
  | _ => false
/-- texts of a size that may be walked -/
def szD : D → Prop
  | .str z => z.length ≤ sizeLine
  | _ => True
def sz2 : D → Prop
  | .tuple ds => ∀ d ∈ ds, szD d
  | _ => True
section
variable {Γ : Nat → Option Fn} {C : Con} {n : Nat} (G : GA Γ C)
include G
theorem between_ok (d : D) (lo hi : Int) {Q : SW.S → Prop} (q : Q (.val (.bool (isBetD lo hi d)))) : wpCall Γ C (n + 1) 28 [.val d, .val (.int lo), .val (.int hi)] Q := by
  refine wp_call G.h28 rfl ?_
  unfold F28
  cases d <;> walk_at "wp" <;> try exact q
  rename_i i
  cases h : decide (lo ≤ i)
  · simpa [isBetD, h] using q
  · simpa [isBetD, h] using q
theorem text_ok29 (d : D) {Q : SW.S → Prop} (q : Q (.val (.bool (isTextD "" d)))) : wpCall Γ C (n + 1) 29 [.val d] Q := by
  refine wp_call G.h29 rfl ?_
  unfold F29
  cases d <;> walk_at "wp" <;> exact q
theorem text_ok32 (d : D) {Q : SW.S → Prop} (q : Q (.val (.bool (isTextD "*" d)))) : wpCall Γ C (n + 1) 32 [.val d] Q := by
  refine wp_call G.h32 rfl ?_
  unfold F32
  cases d <;> walk_at "wp" <;> exact q
theorem in_letters (c : Nat) : (!(Builtin.Str.occurrences ("abcdefghijklmnopqrstuvwxyz" : Str) ⟨#[c]⟩ 0 ("abcdefghijklmnopqrstuvwxyz" : Str).length 1).isEmpty) = isLet c := by
  have := StrLaws.found_one ("abcdefghijklmnopqrstuvwxyz" : Str) c
  exact this
theorem pin_let {c : Nat} {R : Bool → Prop} (h : R (isLet c)) : pIn (.str ⟨#[c]⟩) (.str "abcdefghijklmnopqrstuvwxyz") R := by
  rw [← in_letters G c] at h
  exact h
theorem word_ok (d : D) (hs : szD d) {Q : SW.S → Prop} (q : Q (.val (.bool (isWordD d)))) : wpCall Γ C (n + 1) 31 [.val d] Q := by
  refine wp_call G.h31 rfl ?_
  unfold F31
  cases d <;> walk_at "wp" <;> try exact q
  rename_i z
  refine ⟨hs, ?_⟩
  rw [G.c6, G.c1]
  simp only [isWordD] at q
  cases h : decide (1 ≤ (z.length : Int))
  · rw [h] at q; exact q
  · rw [h] at q
    dsimp only
    cases h2 : decide ((z.length : Int) ≤ 6)
    · rw [h2] at q; exact q
    · rw [h2] at q
      dsimp only
      refine ⟨hs, ?_⟩
      refine lcm (fun c : Nat => .str ⟨#[c]⟩) (fun c => [.val (.str z), .val (.str ⟨#[c]⟩)]) (fun c => .bool (isLet c)) z.cps.toList [] (fun c hc R hR => hR) (fun c hc R hR => ?_) ?_
      · exact pin_let G hR
      · rw [List.nil_append, asBools_map]
        simpa using q
theorem kind_ok (d : D) (hs : sz2 d) {Q : SW.S → Prop} (q : Q (.val (.bool (isKindD d)))) : wpCall Γ C (n + 2) 30 [.val d] Q := by
  refine wp_call G.h30 rfl ?_
  unfold F30
  cases d <;> walk_at "wp" <;> try exact q
  rename_i ds
  match ds, hs, q with
  | [], hs, q => exact q
  | [_], hs, q => exact q
  | _ :: _ :: _ :: _, hs, q =>
    simp only [List.length_cons]
    rw [decide_eq_false (by omega)]
    exact q
  | [a, b], hs, q =>
    show wpCall Γ C (n + 1) 31 [.val a] _
    refine word_ok G a (hs a (by simp)) ?_
    simp only [isKindD] at q
    cases h : isWordD a
    · rw [h] at q; exact q
    · rw [h] at q
      show wpCall Γ C (n + 1) 31 [.val b] _
      exact word_ok G b (hs b (by simp)) q
theorem tongue_ok (d : D) (hs : sz2 d) {Q : SW.S → Prop} (q : Q (.val (.bool (isTongueD d)))) : wpCall Γ C (n + 2) 33 [.val d] Q := by
  refine wp_call G.h33 rfl ?_
  unfold F33
  cases d <;> walk_at "wp" <;> try exact q
  rename_i ds
  match ds, hs, q with
  | [], hs, q => exact q
  | [_], hs, q => exact q
  | _ :: _ :: _ :: _, hs, q =>
    simp only [List.length_cons]
    rw [decide_eq_false (by omega)]
    exact q
  | [a, b], hs, q =>
    show wpCall Γ C (n + 1) 31 [.val a] _
    refine word_ok G a (hs a (by simp)) ?_
    simp only [isTongueD] at q
    cases h : isWordD a
    · rw [h] at q; exact q
    · rw [h] at q
      show wpCall Γ C (n + 1) 31 [.val b] _
      refine word_ok G b (hs b (by simp)) ?_
      cases h : isWordD b
      · rw [h] at q
        show wpCall Γ C (n + 1) 29 [.val b] _
        exact text_ok29 G b q
      · rw [h] at q; exact q
theorem wish_ok (d : D) (hs : sz2 d) (side : Bool) {Q : SW.S → Prop} (q : Q (.val (.bool (isWishD side d)))) : wpCall Γ C (n + 3) 27 [.val d, .val (.int (if side then 1 else 0))] Q := by
  refine wp_call G.h27 rfl ?_
  unfold F27
  cases d <;> walk_at "wp" <;> try exact q
  rename_i ds
  match ds, hs, q with
  | [], hs, q => exact q
  | [_], hs, q => exact q
  | [_, _], hs, q => exact q
  | _ :: _ :: _ :: _ :: _, hs, q =>
    simp only [List.length_cons]
    rw [decide_eq_false (by omega)]
    exact q
  | [a, b, c], hs, q =>
    have ha := hs a (by simp)
    have hb := hs b (by simp)
    have h2 : sz2 (.tuple [a, b]) := fun d hd => by
      rcases (by simpa using hd : d = a ∨ d = b) with rfl | rfl <;> assumption
    rw [G.c4]
    show wpCall Γ C (n + 1 + 1) 28 [.val c, .val (.int 0), .val (.int 10)] _
    refine between_ok G c 0 10 ?_
    simp only [isWishD] at q
    cases h : isBetD 0 10 c
    · rw [h] at q; exact q
    · rw [h] at q
      cases side with
      | true =>
        show wpCall Γ C (n + 2) 33 [.val (.tuple [a, b])] _
        refine tongue_ok G _ h2 ?_
        cases h3 : isTongueD (.tuple [a, b])
        · simp only [h3] at q
          show wpCall Γ C (n + 1 + 1) 32 [.val a] _
          refine text_ok32 G a ?_
          cases h4 : isTextD "*" a
          · rw [h4] at q; exact q
          · rw [h4] at q
            show wpCall Γ C (n + 1 + 1) 29 [.val b] _
            exact text_ok29 G b q
        · simp only [h3] at q; exact q
      | false =>
        show wpCall Γ C (n + 2) 30 [.val (.tuple [a, b])] _
        refine kind_ok G _ h2 ?_
        cases h3 : isKindD (.tuple [a, b])
        · simp only [h3] at q
          show wpCall Γ C (n + 1 + 1) 31 [.val a] _
          refine word_ok G a ha ?_
          cases h4 : isWordD a
          · simp only [h4] at q
            show wpCall Γ C (n + 1 + 1) 32 [.val a] _
            refine text_ok32 G a ?_
            cases h5 : isTextD "*" a
            · rw [h5] at q; exact q
            · rw [h5] at q
              show wpCall Γ C (n + 1 + 1) 32 [.val b] _
              exact text_ok32 G b q
          · simp only [h4] at q
            show wpCall Γ C (n + 1 + 1) 32 [.val b] _
            exact text_ok32 G b q
        · simp only [h3] at q; exact q
end
def cut2 : D → D
  | .tuple es => .tuple (es.take 2)
  | d => d
def isWishesD (side : Bool) : D → Bool
  | .tuple ds => !decide ((ds.length : Int) > 6) && (ds.all (isWishD side) && decide (((dedup (ds.map cut2)).length : Int) = (ds.length : Int)))
  | _ => false
def isAskerD : D → Bool
  | .tuple [a, b] => isWishesD false a && isWishesD true b
  | _ => false
def sz3 : D → Prop
  | .tuple ds => ∀ d ∈ ds, sz2 d
  | _ => True
def sz4 : D → Prop
  | .tuple ds => ∀ d ∈ ds, sz3 d
  | _ => True
theorem word_str {d : D} (h : isWordD d = true) : keyD d = true := by
  cases d <;> first | rfl | exact absurd h Bool.false_ne_true
theorem text_str {d : D} {t : Str} (h : isTextD t d = true) : keyD d = true := by
  cases d <;> first | rfl | exact absurd h Bool.false_ne_true
theorem wish_shape {side : Bool} {d : D} (h : isWishD side d = true) : ∃ a b c, d = .tuple [a, b, c] ∧ keyD a = true ∧ keyD b = true := by
  cases d <;> first | exact absurd h Bool.false_ne_true | skip
  rename_i ds
  match ds, h with
  | [], h => exact absurd h Bool.false_ne_true
  | [_], h => exact absurd h Bool.false_ne_true
  | [_, _], h => exact absurd h Bool.false_ne_true
  | _ :: _ :: _ :: _ :: _, h => exact absurd h Bool.false_ne_true
  | [a, b, c], h =>
    simp only [isWishD, Bool.and_eq_true] at h
    refine ⟨a, b, c, rfl, ?_⟩
    cases side
    · simp only [isKindD, Bool.or_eq_true, Bool.and_eq_true] at h
      rcases h.2 with ⟨h1, h2⟩ | ⟨h1 | h1, h2⟩
      · exact ⟨word_str h1, word_str h2⟩
      · exact ⟨word_str h1, text_str h2⟩
      · exact ⟨text_str h1, text_str h2⟩
    · simp only [isTongueD, Bool.or_eq_true, Bool.and_eq_true] at h
      rcases h.2 with ⟨h1, h2 | h2⟩ | ⟨h1, h2⟩
      · exact ⟨word_str h1, word_str h2⟩
      · exact ⟨word_str h1, text_str h2⟩
      · exact ⟨text_str h1, text_str h2⟩
section
variable {Γ : Nat → Option Fn} {C : Con} {n : Nat} (G : GA Γ C)
include G
theorem wishes_ok (d : D) (hs : sz3 d) (side : Bool) {Q : SW.S → Prop} (q : Q (.val (.bool (isWishesD side d)))) : wpCall Γ C (n + 4) 26 [.val d, .val (.int (if side then 1 else 0))] Q := by
  refine wp_call G.h26 rfl ?_
  unfold F26
  cases d <;> walk_at "wp" <;> try exact q
  rename_i ds
  rw [G.c5]
  show (match BoolOp.Or, decide ((ds.length : Int) > 6) with
    | .And, true => _
    | .And, false => _
    | .Or, true => _
    | .Or, false => _)
  simp only [isWishesD] at q
  cases h : decide ((ds.length : Int) > 6)
  · rw [h] at q
    refine lcd (fun x => [.val (.tuple ds), .val (.int (if side then 1 else 0)), .val x]) (fun x => .bool (isWishD side x)) ds [] (fun x hx R hR => hR) (fun x hx R hR => ?_) ?_
    · exact wish_ok G x (hs x hx) side hR
    · rw [List.nil_append, asBools_map]
      have e : (ds.map (isWishD side)).all id = ds.all (isWishD side) := by rw [List.all_map]; rfl
      show (match !((ds.map (isWishD side)).all id) with
        | true => _
        | false => _)
      rw [e]
      cases h2 : ds.all (isWishD side)
      · rw [h2] at q; exact q
      · rw [h2] at q
        refine lcd (fun x => [.val (.tuple ds), .val (.int (if side then 1 else 0)), .val x]) cut2 ds [] (fun x hx R hR => hR) (fun x hx R hR => ?_) ?_
        · obtain ⟨a, b, c, rfl, _⟩ := wish_shape (List.all_eq_true.mp h2 x hx)
          exact hR
        · refine ⟨⟨?_, ?_⟩, q⟩
          · rw [List.nil_append, List.all_map]
            refine List.all_eq_true.mpr fun x hx => ?_
            obtain ⟨a, b, c, rfl, k1, k2⟩ := wish_shape (List.all_eq_true.mp h2 x hx)
            simp [cut2, hashD, k1, k2]
          · rw [List.nil_append, List.length_map]
            have := of_decide_eq_false h
            omega
  · rw [h] at q; exact q
theorem asker_ok (d : D) (hs : sz4 d) {Q : SW.S → Prop} (q : Q (.val (.bool (isAskerD d)))) : wpCall Γ C (n + 5) 25 [.val d] Q := by
  refine wp_call G.h25 rfl ?_
  unfold F25
  cases d <;> walk_at "wp" <;> try exact q
  rename_i ds
  match ds, hs, q with
  | [], hs, q => exact q
  | [_], hs, q => exact q
  | _ :: _ :: _ :: _, hs, q =>
    simp only [List.length_cons]
    rw [decide_eq_false (by omega)]
    exact q
  | [a, b], hs, q =>
    show wpCall Γ C (n + 4) 26 [.val a, .val (.int (if false = true then 1 else 0))] _
    refine wishes_ok G a (hs a (by simp)) false ?_
    simp only [isAskerD] at q
    cases h : isWishesD false a
    · rw [h] at q; exact q
    · rw [h] at q
      show wpCall Γ C (n + 4) 26 [.val b, .val (.int (if true = true then 1 else 0))] _
      exact wishes_ok G b (hs b (by simp)) true q
end
end SWL

namespace SWL
open PySem SW
local macro_rules | `(tactic| walk_at "wp") => `(tactic| simp only [wpSs, wpS, wpE, wpEs, wpF, wpPar, setAll, wpBop, wpTs, wpIt, wpBind, wpBinds, see, seeS, getS, setS, List.map_cons, List.map_nil, List.cons_append, List.nil_append, List.append_nil, List.replicate, List.length_cons, List.length_nil, Nat.reduceAdd, Nat.reduceSub, pIsi, pB, pCmp, pEq, pLe, pLt, pGt, pGe, pI, pBin, pB1, pB2, pIx, pSl, pSeq, resD, wipeS, Bool.not_true, Bool.not_false, true_and, and_true, false_implies, implies_true, forall_const, Bool.false_eq_true, Bool.true_eq_false])
structure GB (Γ : Nat → Option Fn) (C : Con) : Prop where
  h34 : Γ 34 = some F34
  h35 : Γ 35 = some F35
  c2 : C 2 = some (.int 6)
  c3 : C 3 = some (.int 4)
def isMakeD : D → Bool
  | .tuple [a, b, c] => isKindD a && (isTongueD b && isBetD 1 4 c)
  | _ => false
def isShelfD : D → Bool
  | .tuple ds => decide ((ds.length : Int) ≤ 6) && ds.all isMakeD
  | _ => false
structure GL (Γ : Nat → Option Fn) : Prop where
  h11 : Γ 11 = some F11
  h12 : Γ 12 = some F12
  h13 : Γ 13 = some F13
  h14 : Γ 14 = some F14
  h15 : Γ 15 = some F15
  h16 : Γ 16 = some F16
  h23 : Γ 23 = some F23
  h24 : Γ 24 = some F24
section
variable {Γ : Nat → Option Fn} {C : Con} {n : Nat}
theorem make_ok (G : GA Γ C) (B : GB Γ C) (d : D) (hs : sz3 d) {Q : SW.S → Prop} (q : Q (.val (.bool (isMakeD d)))) : wpCall Γ C (n + 3) 35 [.val d] Q := by
  refine wp_call B.h35 rfl ?_
  unfold F35
  cases d <;> walk_at "wp" <;> try exact q
  rename_i ds
  match ds, hs, q with
  | [], hs, q => exact q
  | [_], hs, q => exact q
  | [_, _], hs, q => exact q
  | _ :: _ :: _ :: _ :: _, hs, q =>
    simp only [List.length_cons]
    rw [decide_eq_false (by omega)]
    exact q
  | [a, b, c], hs, q =>
    rw [B.c3]
    simp only [isMakeD] at q
    show wpCall Γ C (n + 2) 30 [.val a] _
    refine kind_ok G a (hs a (by simp)) ?_
    cases h : isKindD a
    · rw [h] at q; exact q
    · rw [h] at q
      show wpCall Γ C (n + 2) 33 [.val b] _
      refine tongue_ok G b (hs b (by simp)) ?_
      cases h2 : isTongueD b
      · rw [h2] at q; exact q
      · rw [h2] at q
        show wpCall Γ C (n + 1 + 1) 28 [.val c, .val (.int 1), .val (.int 4)] _
        exact between_ok G c 1 4 q
theorem shelf_ok (G : GA Γ C) (B : GB Γ C) (d : D) (hs : sz4 d) {Q : SW.S → Prop} (q : Q (.val (.bool (isShelfD d)))) : wpCall Γ C (n + 4) 34 [.val d] Q := by
  refine wp_call B.h34 rfl ?_
  unfold F34
  cases d <;> walk_at "wp" <;> try exact q
  rename_i ds
  rw [B.c2]
  simp only [isShelfD] at q
  show (match BoolOp.And, decide ((ds.length : Int) ≤ 6) with
    | .And, true => _
    | .And, false => _
    | .Or, true => _
    | .Or, false => _)
  cases h : decide ((ds.length : Int) ≤ 6)
  · rw [h] at q; exact q
  · rw [h] at q
    refine lcd (fun x => [.val (.tuple ds), .val x]) (fun x => .bool (isMakeD x)) ds [] (fun x hx R hR => hR) (fun x hx R hR => ?_) ?_
    · exact make_ok G B x (hs x hx) hR
    · rw [List.nil_append, asBools_map]
      have e : (ds.map isMakeD).all id = ds.all isMakeD := by rw [List.all_map]; rfl
      rw [← e] at q
      exact q
/-! ### draws -/
theorem draw_ok {m : Int} (h0 : 0 < m) (h1 : m < 1073741824) {Q : SW.S → Prop} (q : ∀ k : Int, 0 ≤ k → k < m → Q (.val (.int k))) : wpCall Γ C (n + 1) 1 [.src, .val (.int m)] Q := ⟨⟨h0, h1⟩, q⟩
theorem atI_at {ds : List D} {k : Int} (h0 : 0 ≤ k) (h1 : k < ds.length) : ∃ d, L2.atI ds k = some d ∧ d ∈ ds := by
  obtain ⟨j, rfl⟩ : ∃ j : Nat, k = (j : Int) := ⟨k.toNat, by omega⟩
  have hj : j < ds.length := by omega
  exact ⟨ds[j], L2.atI_nat (List.getElem?_eq_getElem hj), List.getElem_mem hj⟩
theorem choice_ok (L : GL Γ) {ds : List D} (hn : ds ≠ []) (hl : ds.length < 1000000) {Q : SW.S → Prop} (q : ∀ d ∈ ds, Q (.val d)) : wpCall Γ C (n + 2) 13 [.src, .val (.list ds)] Q := by
  refine wp_call L.h13 rfl ?_
  unfold F13
  walk_at "wp"
  have hp := List.length_pos_iff.mpr hn
  refine draw_ok (n := n) (by omega) (by omega) fun k h0 h1 => ?_
  obtain ⟨d, e, hd⟩ := atI_at h0 h1
  show (match L2.atI ds k with
    | some d => _
    | none => _)
  rw [e]
  exact q d hd
theorem share_ok (L : GL Γ) {Q : SW.S → Prop} (q : ∀ i : Int, 0 ≤ i → i ≤ 10 → Q (.val (.int i))) : wpCall Γ C (n + 3) 15 [.src] Q := by
  refine wp_call L.h15 rfl ?_
  unfold F15
  walk_at "wp"
  refine draw_ok (n := n + 1) (by decide) (by decide) fun k h0 h1 => ?_
  refine choice_ok L (n := n) (by simp) (by simp) fun d hd => ?_
  simp only [List.mem_cons, List.not_mem_nil, or_false] at hd
  rcases hd with rfl | rfl | rfl | rfl | rfl | rfl | rfl | rfl <;> exact q _ (by omega) (by omega)
end
end SWL

namespace SWL
open PySem SW
local macro_rules | `(tactic| walk_at "wp") => `(tactic| simp only [wpSs, wpS.eq_1, wpS.eq_2, wpS.eq_3, wpS.eq_4, wpS.eq_5, wpS.eq_6, wpS.eq_7, wpS.eq_8, wpS.eq_9, wpS.eq_10, wpS.eq_11, wpS.eq_12, wpS.eq_15, wpS.eq_16, wpS.eq_17, wpS.eq_18, wpS.eq_19, wpS.eq_20, wpE, wpEs, wpF, wpPar, setAll, wpBop, wpTs, wpIt, wpBind, wpBinds, see, seeS, getS, setS, List.map_cons, List.map_nil, List.cons_append, List.nil_append, List.append_nil, List.replicate, List.length_cons, List.length_nil, Nat.reduceAdd, Nat.reduceSub, pIsi, pB, pCmp, pEq, pLe, pLt, pGt, pGe, pI, pBin, pB1, pB2, pIx, pSl, pSeq, resD, wipeS, Bool.not_true, Bool.not_false, true_and, and_true, false_implies, implies_true, forall_const, Bool.false_eq_true, Bool.true_eq_false])
/-! ### data that may be compared -/
structure Lay (n : Nat) (d : D) : Prop where
  can : d.canLay0 = true
  dep : d.depth ≤ n
theorem Lay.ok {n : Nat} {d : D} (h : Lay n d) (hn : n ≤ 64) : okD d := by
  unfold okD SeqAt.shaped
  rw [Bool.and_eq_true, decide_eq_true_eq]
  exact ⟨h.can, Nat.le_trans h.dep hn⟩
theorem Lay.mono {n m : Nat} {d : D} (h : Lay n d) (hn : n ≤ m) : Lay m d := ⟨h.can, Nat.le_trans h.dep hn⟩
theorem lay_all {n : Nat} : ∀ {ds : List D}, (∀ d ∈ ds, Lay n d) → PyData.canLayAll0 ds = true ∧ PyData.depthAll ds ≤ n
  | [], _ => ⟨rfl, Nat.zero_le _⟩
  | d :: ds, h => by
    obtain ⟨h1, h2⟩ := lay_all fun x hx => h x (List.mem_cons_of_mem _ hx)
    have hd := h d List.mem_cons_self
    refine ⟨by rw [PyData.canLayAll0, hd.can, h1]; rfl, ?_⟩
    rw [PyData.depthAll]
    exact Nat.max_le.mpr ⟨hd.dep, h2⟩
theorem Lay.tup {n : Nat} {ds : List D} (h : ∀ d ∈ ds, Lay n d) : Lay (n + 1) (.tuple ds) := by
  obtain ⟨h1, h2⟩ := lay_all h
  exact ⟨by rw [PyData.canLay0]; exact h1, by rw [PyData.depth]; omega⟩
theorem Lay.lst {n : Nat} {ds : List D} (h : ∀ d ∈ ds, Lay n d) : Lay (n + 1) (.list ds) := by
  obtain ⟨h1, h2⟩ := lay_all h
  exact ⟨by rw [PyData.canLay0]; exact h1, by rw [PyData.depth]; omega⟩
theorem Lay.int (i : Int) : Lay 0 (.int i) := ⟨by rw [PyData.canLay0], by rw [PyData.depth]; exact Nat.le_refl 0⟩
/-! ### unequal to each other -/
def Dis (l : List D) : Prop := l.Pairwise fun x y => PyData.eqv x y = false
theorem dedup_dis : ∀ {l : List D}, Dis l → dedup l = l
  | [], _ => rfl
  | d :: l, h => by
    obtain ⟨h1, h2⟩ := List.pairwise_cons.mp h
    show d :: (dedup l).filter _ = d :: l
    rw [dedup_dis h2, List.filter_eq_self.mpr fun x hx => by rw [h1 x hx]; rfl]
/-- the words of the law's lists -/
def wordsD : List D := [.str "a", .str "b", .str "c", .str "*", .str ""]
theorem lay_word {d : D} (h : d ∈ wordsD) : Lay 0 d := by
  simp only [wordsD, List.mem_cons, List.not_mem_nil, or_false] at h
  rcases h with rfl | rfl | rfl | rfl | rfl <;> exact ⟨by decide +kernel, by decide +kernel⟩
/-- a wish as the law makes it -/
structure WishR (side : Bool) (d : D) : Prop where
  ok : isWishD side d = true
  sh : ∃ a b, ∃ i : Int, d = .tuple [a, b, .int i] ∧ a ∈ wordsD ∧ b ∈ wordsD
theorem WishR.lay {side : Bool} {d : D} (h : WishR side d) : Lay 1 d ∧ Lay 1 (cut2 d) := by
  obtain ⟨a, b, i, rfl, ha, hb⟩ := h.sh
  refine ⟨.tup fun x hx => ?_, .tup fun x hx => ?_⟩
  · simp only [List.mem_cons, List.not_mem_nil, or_false] at hx
    rcases hx with rfl | rfl | rfl
    · exact lay_word ha
    · exact lay_word hb
    · exact .int i
  · have hx : x ∈ [a, b] := hx
    simp only [List.mem_cons, List.not_mem_nil, or_false] at hx
    rcases hx with rfl | rfl
    · exact lay_word ha
    · exact lay_word hb
section
variable {Γ : Nat → Option Fn} {C : Con} {n : Nat}
set_option maxHeartbeats 1000000 in
theorem once_ok (L : GL Γ) {side : Bool} {ds : List D} (hd : ∀ d ∈ ds, WishR side d) {Q : SW.S → Prop} (hl : ds.length ≤ 1000)
    (q : ∀ es, (∀ d ∈ es, WishR side d) → es.length ≤ ds.length → Dis (es.map cut2) → Q (.val (.tuple es))) : wpCall Γ C (n + 1) 14 [.val (.list ds)] Q := by
  refine wp_call L.h14 rfl ?_
  unfold F14
  walk_at "wp"
  refine s_forD (wpCall_mono Γ C n) ds (fun rest ρ => (∀ d ∈ rest, WishR side d) ∧ ∃ es s2 s3, ρ = [.val (.list ds), .own es, s2, s3] ∧ (∀ d ∈ es, WishR side d) ∧ es.length + rest.length ≤ ds.length ∧ Dis (es.map cut2) ∧ (s2 = .no ∨ ∃ d, s2 = .val d) ∧ (s3 = .no ∨ ∃ d, s3 = .val d))
    (fun R h => h) ⟨hd, [], .no, .no, rfl, fun d h => (nomatch h), by simp, List.Pairwise.nil, .inl rfl, .inl rfl⟩ ?_ ?_
  · rintro x r ρ ⟨hr, es, s2, s3, rfl, h1, h2, h3, h4, h5⟩
    have hx := hr x List.mem_cons_self
    have hr' : ∀ d ∈ r, WishR side d := fun d h => hr d (List.mem_cons_of_mem _ h)
    walk_at "wp"
    obtain ⟨a, b, i, e, ha, hb⟩ := hx.sh
    have e2 : cut2 x = .tuple [a, b] := by rw [e]; rfl
    have hs3 : seeS true s3 = s3 := by rcases h5 with rfl | ⟨d, rfl⟩ <;> rfl
    have fold : ∀ W : Prop, W → W := fun _ h => h
    subst e
    refine lcd (fun y => [.val (.list ds), .val (.list es), .val (.tuple [a, b, .int i]), .val y]) cut2 es [] (fun y hy R hR => hR) (fun y hy R hR => ?_) ?_
    · obtain ⟨a', b', i', rfl, _, _⟩ := (h1 y hy).sh
      exact hR
    · rw [List.nil_append]
      refine ⟨hx.lay.2.ok (by decide), (Lay.lst (n := 1) fun z hz => ?_).ok (by decide), ?_⟩
      · obtain ⟨y, hy, rfl⟩ := List.mem_map.mp hz
        exact (h1 y hy).lay.2
      · show (match !((es.map cut2).any fun z => PyData.eqv z (.tuple [a, b])) with
          | true => _
          | false => _)
        cases hany : (es.map cut2).any fun z => PyData.eqv z (.tuple [a, b])
        · refine ⟨?_, hr', es ++ [.tuple [a, b, .int i]], .val (.tuple [a, b, .int i]), s3, rfl, fun d hd => ?_, by simp only [List.length_append, List.length_cons, List.length_nil] at h2 ⊢; omega, ?_, .inr ⟨_, rfl⟩, h5⟩
          · simp only [List.length_cons] at h2; exact Nat.lt_of_le_of_lt (show es.length ≤ 1000 by omega) (by decide)
          · rcases List.mem_append.mp hd with h | h
            · exact h1 d h
            · rw [List.mem_singleton.mp h]; exact hx
          · rw [List.map_append]
            refine List.pairwise_append.mpr ⟨h3, List.pairwise_singleton .., fun y hy z hz => ?_⟩
            rw [List.map_cons, List.map_nil, List.mem_singleton] at hz
            subst hz
            exact (by simpa using List.any_eq_false.mp hany y hy : PyData.eqv y (.tuple [a, b]) = false)
        · exact ⟨hr', es, .val (.tuple [a, b, .int i]), s3, rfl, h1, by simp only [List.length_cons] at h2; omega, h3, .inr ⟨_, rfl⟩, h5⟩
  · rintro ρ ⟨_, es, s2, s3, rfl, h1, h2, h3, h4, h5⟩
    walk_at "wp"
    exact q es h1 (by simpa using h2) h3
/-- the pairs that the law's lists choose from -/
def pairsK : List D := [.tuple [.str "a", .str "*"], .tuple [.str "b", .str "*"], .tuple [.str "*", .str "*"], .tuple [.str "a", .str "a"], .tuple [.str "a", .str "b"], .tuple [.str "b", .str "c"], .tuple [.str "c", .str "a"]]
def pairsT : List D := [.tuple [.str "a", .str ""], .tuple [.str "b", .str ""], .tuple [.str "*", .str ""], .tuple [.str "a", .str "a"], .tuple [.str "a", .str "b"], .tuple [.str "b", .str "c"], .tuple [.str "c", .str ""]]
def pairOk (side : Bool) (d : D) : Bool := match d with
  | .tuple [a, b] => (match side with
    | true => isTongueD (.tuple [a, b]) || (isTextD "*" a && isTextD "" b)
    | false => isKindD (.tuple [a, b]) || ((isWordD a || isTextD "*" a) && isTextD "*" b)) && wordsD.any (fun z => PyData.eqv z a) && wordsD.any (fun z => PyData.eqv z b)
  | _ => false
theorem word_in {a : D} (h : wordsD.any (fun z => PyData.eqv z a) = true) : a ∈ wordsD := by
  obtain ⟨z, hz, e⟩ := List.any_eq_true.mp h
  have : z = a := by
    simp only [wordsD, List.mem_cons, List.not_mem_nil, or_false] at hz
    rcases hz with rfl | rfl | rfl | rfl | rfl <;> cases a <;> simp [PyData.eqv] at e <;> rw [e]
  rw [← this]
  exact hz
theorem pair_wish {side : Bool} {d : D} (h : pairOk side d = true) : ∃ a b, d = .tuple [a, b] ∧ ∀ i : Int, 0 ≤ i → i ≤ 10 → WishR side (.tuple [a, b, .int i]) := by
  unfold pairOk at h
  split at h
  · rename_i a b
    simp only [Bool.and_eq_true] at h
    refine ⟨a, b, rfl, fun i h0 h1 => ⟨?_, a, b, i, rfl, word_in h.1.2, word_in h.2⟩⟩
    simp only [isWishD, isBetD, h0, h1, decide_true, Bool.true_and]
    exact h.1.1
  · cases h
theorem pairsK_ok : ∀ d ∈ pairsK, pairOk false d = true := by
  have : pairsK.all (pairOk false) = true := by decide +kernel
  exact fun d hd => List.all_eq_true.mp this d hd
theorem pairsT_ok : ∀ d ∈ pairsT, pairOk true d = true := by
  have : pairsT.all (pairOk true) = true := by decide +kernel
  exact fun d hd => List.all_eq_true.mp this d hd
/-- a list of wishes as the law makes it -/
structure ListR (side : Bool) (m : Nat) (d : D) : Prop where
  ex : ∃ es, d = .tuple es ∧ (∀ e ∈ es, WishR side e) ∧ es.length ≤ m ∧ Dis (es.map cut2)
theorem rng_map (m : Int) : rngD 0 m = (List.range (m - 0).toNat).map fun k => PyData.int (0 + (k : Nat)) := rfl
set_option maxHeartbeats 2000000 in
theorem kinds_ok (L : GL Γ) {m : Nat} (hm : m ≤ 100) {Q : SW.S → Prop} (q : ∀ d, ListR false m d → Q (.val d)) : wpCall Γ C (n + 4) 12 [.src, .val (.int m)] Q := by
  refine wp_call L.h12 rfl ?_
  unfold F12
  walk_at "wp"
  show wpCall Γ C (n + 3) 1 [.src, .val (.int ((m : Int) + 1))] (resD fun x => pI x fun k => rOk k ∧ wpFor (wpBind (.nm 4)) (fun ρ' E' => wpSs (wpCall Γ C (n + 3)) C _ ρ' E') _ (rngD 0 k) _)
  refine draw_ok (n := n + 2) (by omega) (by omega) fun k h0 h1 => ⟨⟨by omega, by omega⟩, ?_⟩
  refine for_rem (wpCall_mono Γ C (n + 3)) (fun j : Nat => PyData.int (0 + (j : Nat))) (fun rest ρ => ∃ es s4 s5 s6, ρ = [.src, .val (.int m), .own es, .val (.list pairsK), s4, s5, s6] ∧ (∀ e ∈ es, WishR false e) ∧ es.length + rest.length ≤ m)
    (List.range (k - 0).toNat) _ ?_ ?_ ⟨[], .no, .no, .no, rfl, fun d h => (nomatch h), by simp; omega⟩
  · rintro x r ρ ⟨es, s4, s5, s6, rfl, h2, h3⟩
    walk_at "wp"
    show wpCall Γ C (n + 1 + 2) 13 [.src, .val (.list pairsK)] _
    refine choice_ok L (by simp [pairsK]) (by simp [pairsK]) fun d hd => ?_
    obtain ⟨a, b, rfl, hw⟩ := pair_wish (pairsK_ok d hd)
    show wpCall Γ C (n + 3) 15 [.src] _
    refine share_ok L fun i i0 i1 => ⟨?_, es ++ [.tuple [a, b, .int i]], _, _, _, rfl, fun e he => ?_, by simp only [List.length_append, List.length_cons, List.length_nil] at h3 ⊢; omega⟩
    · simp only [List.length_cons] at h3
      exact Nat.lt_of_le_of_lt (show es.length ≤ 1000 by omega) (by decide)
    · rcases List.mem_append.mp he with h | h
      · exact h2 e h
      · rw [List.mem_singleton.mp h]; exact hw i i0 i1
  · rintro ρ ⟨es, s4, s5, s6, rfl, h2, h3⟩
    show wpCall Γ C (n + 2 + 1) 14 [.val (.list es)] _
    refine once_ok L h2 (by simp at h3; omega) fun fs f1 f2 f3 => ?_
    exact q _ ⟨fs, rfl, f1, by simp at h3; omega, f3⟩
set_option maxHeartbeats 2000000 in
theorem tongues_ok (L : GL Γ) {m : Nat} (hm : m ≤ 100) {Q : SW.S → Prop} (q : ∀ d, ListR true m d → Q (.val d)) : wpCall Γ C (n + 4) 16 [.src, .val (.int m)] Q := by
  refine wp_call L.h16 rfl ?_
  unfold F16
  walk_at "wp"
  show wpCall Γ C (n + 3) 1 [.src, .val (.int ((m : Int) + 1))] (resD fun x => pI x fun k => rOk k ∧ wpFor (wpBind (.nm 4)) (fun ρ' E' => wpSs (wpCall Γ C (n + 3)) C _ ρ' E') _ (rngD 0 k) _)
  refine draw_ok (n := n + 2) (by omega) (by omega) fun k h0 h1 => ⟨⟨by omega, by omega⟩, ?_⟩
  refine for_rem (wpCall_mono Γ C (n + 3)) (fun j : Nat => PyData.int (0 + (j : Nat))) (fun rest ρ => ∃ es s4 s5 s6, ρ = [.src, .val (.int m), .own es, .val (.list pairsT), s4, s5, s6] ∧ (∀ e ∈ es, WishR true e) ∧ es.length + rest.length ≤ m)
    (List.range (k - 0).toNat) _ ?_ ?_ ⟨[], .no, .no, .no, rfl, fun d h => (nomatch h), by simp; omega⟩
  · rintro x r ρ ⟨es, s4, s5, s6, rfl, h2, h3⟩
    walk_at "wp"
    show wpCall Γ C (n + 1 + 2) 13 [.src, .val (.list pairsT)] _
    refine choice_ok L (by simp [pairsT]) (by simp [pairsT]) fun d hd => ?_
    obtain ⟨a, b, rfl, hw⟩ := pair_wish (pairsT_ok d hd)
    show wpCall Γ C (n + 3) 15 [.src] _
    refine share_ok L fun i i0 i1 => ⟨?_, es ++ [.tuple [a, b, .int i]], _, _, _, rfl, fun e he => ?_, by simp only [List.length_append, List.length_cons, List.length_nil] at h3 ⊢; omega⟩
    · simp only [List.length_cons] at h3
      exact Nat.lt_of_le_of_lt (show es.length ≤ 1000 by omega) (by decide)
    · rcases List.mem_append.mp he with h | h
      · exact h2 e h
      · rw [List.mem_singleton.mp h]; exact hw i i0 i1
  · rintro ρ ⟨es, s4, s5, s6, rfl, h2, h3⟩
    show wpCall Γ C (n + 2 + 1) 14 [.val (.list es)] _
    refine once_ok L h2 (by simp at h3; omega) fun fs f1 f2 f3 => ?_
    exact q _ ⟨fs, rfl, f1, by simp at h3; omega, f3⟩
/-- an asker as the law makes it -/
structure AskerR (d : D) : Prop where
  ex : ∃ a b, d = .tuple [a, b] ∧ ListR false 4 a ∧ ListR true 3 b
theorem law_asker_ok (L : GL Γ) {Q : SW.S → Prop} (q : ∀ d, AskerR d → Q (.val d)) : wpCall Γ C (n + 5) 11 [.src] Q := by
  refine wp_call L.h11 rfl ?_
  unfold F11
  walk_at "wp"
  refine kinds_ok L (m := 4) (by decide) fun a ha => ?_
  refine tongues_ok L (m := 3) (by decide) fun b hb => ?_
  exact q _ ⟨a, b, rfl, ha, hb⟩
/-- a make as the law makes it -/
structure MakeR (d : D) : Prop where
  ok : isMakeD d = true
  sh : ∃ a b c e, ∃ i : Int, d = .tuple [.tuple [a, b], .tuple [c, e], .int i] ∧ a ∈ wordsD ∧ b ∈ wordsD ∧ c ∈ wordsD ∧ e ∈ wordsD
theorem law_make_ok (L : GL Γ) {Q : SW.S → Prop} (q : ∀ d, MakeR d → Q (.val d)) : wpCall Γ C (n + 3) 24 [.src] Q := by
  refine wp_call L.h24 rfl ?_
  unfold F24
  walk_at "wp"
  refine choice_ok L (n := n) (by simp) (by simp) fun a ha => ?_
  refine choice_ok L (n := n) (by simp) (by simp) fun b hb => ?_
  refine choice_ok L (n := n) (by simp) (by simp) fun c hc => ?_
  refine choice_ok L (n := n) (by simp) (by simp) fun e he => ?_
  refine draw_ok (Γ := Γ) (C := C) (n := n + 1) (by decide) (by decide) fun k h0 h1 => q _ ⟨?_, a, b, c, e, 1 + k, rfl, ?_, ?_, ?_, ?_⟩
  all_goals simp only [List.mem_cons, List.not_mem_nil, or_false] at ha hb hc he
  · have ka : isBetD 1 4 (.int (1 + k)) = true := by
      show (decide (1 ≤ 1 + k) && decide (1 + k ≤ 4)) = true
      rw [decide_eq_true (by omega), decide_eq_true (by omega)]
      rfl
    have kk : isKindD (.tuple [a, b]) = true := by
      rcases ha with rfl | rfl | rfl | rfl <;> rcases hb with rfl | rfl | rfl <;> decide +kernel
    have kt : isTongueD (.tuple [c, e]) = true := by
      rcases hc with rfl | rfl | rfl | rfl <;> rcases he with rfl | rfl | rfl | rfl | rfl <;> decide +kernel
    simp only [isMakeD, kk, kt, ka]
    rfl
  · rcases ha with rfl | rfl | rfl | rfl <;> simp [wordsD]
  · rcases hb with rfl | rfl | rfl <;> simp [wordsD]
  · rcases hc with rfl | rfl | rfl | rfl <;> simp [wordsD]
  · rcases he with rfl | rfl | rfl | rfl | rfl <;> simp [wordsD]
/-- a shelf as the law makes it -/
structure ShelfR (m : Nat) (d : D) : Prop where
  ex : ∃ es, d = .tuple es ∧ (∀ e ∈ es, MakeR e) ∧ es.length ≤ m
/-- a comprehension whose elements are drawn -/
theorem lcn {α : Type} {b : D → List S → (List S → Prop) → Prop} {te : List S → (D → Prop) → Prop} {ρ : List S} (e : α → D) (r : α → List S) (Good : D → Prop) : ∀ (l : List α) (acc : List D) {Q : List D → Prop},
    (∀ x ∈ l, ∀ R : List S → Prop, R (r x) → b (e x) ρ R) → (∀ x ∈ l, ∀ R : D → Prop, (∀ y, Good y → R y) → te (r x) R) → (∀ ys, ys.length = l.length → (∀ y ∈ ys, Good y) → Q (acc ++ ys)) → wpLC b (fun _ K => K true) te ρ (l.map e) acc Q
  | [], acc, Q, hb, he, q => by simpa [wpLC] using q [] rfl (fun y hy => nomatch hy)
  | x :: l, acc, Q, hb, he, q => by
    refine hb x List.mem_cons_self _ (he x List.mem_cons_self _ fun y gy => ?_)
    refine lcn e r Good l (acc ++ [y]) (fun x hx => hb x (List.mem_cons_of_mem _ hx)) (fun x hx => he x (List.mem_cons_of_mem _ hx)) fun ys hl hg => ?_
    have := q (y :: ys) (by simp [hl]) fun z hz => by
      rcases List.mem_cons.mp hz with rfl | hz
      · exact gy
      · exact hg z hz
    simpa using this
theorem law_shelf_ok (L : GL Γ) {m : Nat} (hm : m ≤ 100) {Q : SW.S → Prop} (q : ∀ d, ShelfR m d → Q (.val d)) : wpCall Γ C (n + 4) 23 [.src, .val (.int m)] Q := by
  refine wp_call L.h23 rfl ?_
  unfold F23
  walk_at "wp"
  show wpCall Γ C (n + 3) 1 [.src, .val (.int ((m : Int) + 1))] _
  refine draw_ok (Γ := Γ) (C := C) (n := n + 2) (by omega) (by omega) fun k h0 h1 => ⟨⟨by omega, by omega⟩, ?_⟩
  refine lcn (fun j : Nat => PyData.int (0 + (j : Nat))) (fun j => [.src, .val (.int m), .val (.int (0 + (j : Nat)))]) MakeR (List.range (k - 0).toNat) [] (fun x hx R hR => hR) (fun x hx R hR => ?_) fun ys hl hg => ?_
  · exact law_make_ok L fun d hd => hR d hd
  · rw [List.nil_append]
    exact q _ ⟨ys, rfl, hg, by rw [hl, List.length_range]; omega⟩
end
/-! ### the law's lists are what they should be -/
theorem word_sz {d : D} (h : d ∈ wordsD) : szD d := by
  simp only [wordsD, List.mem_cons, List.not_mem_nil, or_false] at h
  rcases h with rfl | rfl | rfl | rfl | rfl
  · exact (by decide : (("a" : Str).length ≤ sizeLine))
  · exact (by decide : (("b" : Str).length ≤ sizeLine))
  · exact (by decide : (("c" : Str).length ≤ sizeLine))
  · exact (by decide : (("*" : Str).length ≤ sizeLine))
  · exact (by decide : (("" : Str).length ≤ sizeLine))
theorem WishR.sz {side : Bool} {d : D} (h : WishR side d) : sz2 d := by
  obtain ⟨a, b, i, rfl, ha, hb⟩ := h.sh
  intro x hx
  simp only [List.mem_cons, List.not_mem_nil, or_false] at hx
  rcases hx with rfl | rfl | rfl
  · exact word_sz ha
  · exact word_sz hb
  · trivial
theorem ListR.ok {side : Bool} {m : Nat} {d : D} (h : ListR side m d) (hm : m ≤ 6) : isWishesD side d = true ∧ sz3 d := by
  obtain ⟨es, rfl, h1, h2, h3⟩ := h.ex
  refine ⟨?_, fun d hd => (h1 d hd).sz⟩
  simp only [isWishesD]
  rw [decide_eq_false (by omega), List.all_eq_true.mpr fun x hx => (h1 x hx).ok, dedup_dis h3, List.length_map, decide_eq_true rfl]
  rfl
theorem AskerR.ok {d : D} (h : AskerR d) : isAskerD d = true ∧ sz4 d := by
  obtain ⟨a, b, rfl, ha, hb⟩ := h.ex
  obtain ⟨a1, a2⟩ := ha.ok (by decide)
  obtain ⟨b1, b2⟩ := hb.ok (by decide)
  refine ⟨by simp only [isAskerD, a1, b1]; rfl, fun d hd => ?_⟩
  simp only [List.mem_cons, List.not_mem_nil, or_false] at hd
  rcases hd with rfl | rfl <;> assumption
theorem MakeR.sz {d : D} (h : MakeR d) : sz3 d := by
  obtain ⟨a, b, c, e, i, rfl, h1, h2, h3, h4⟩ := h.sh
  intro x hx
  simp only [List.mem_cons, List.not_mem_nil, or_false] at hx
  rcases hx with rfl | rfl | rfl
  · intro y hy
    simp only [List.mem_cons, List.not_mem_nil, or_false] at hy
    rcases hy with rfl | rfl
    · exact word_sz h1
    · exact word_sz h2
  · intro y hy
    simp only [List.mem_cons, List.not_mem_nil, or_false] at hy
    rcases hy with rfl | rfl
    · exact word_sz h3
    · exact word_sz h4
  · trivial
theorem ShelfR.ok {m : Nat} {d : D} (h : ShelfR m d) (hm : m ≤ 6) : isShelfD d = true ∧ sz4 d := by
  obtain ⟨es, rfl, h1, h2⟩ := h.ex
  refine ⟨?_, fun d hd => (h1 d hd).sz⟩
  simp only [isShelfD]
  rw [decide_eq_true (by omega), List.all_eq_true.mpr fun x hx => (h1 x hx).ok]
  rfl
end SWL

namespace SWL
open PySem SW
local macro_rules | `(tactic| walk_at "wp") => `(tactic| simp only [wpSs, wpS.eq_1, wpS.eq_2, wpS.eq_3, wpS.eq_4, wpS.eq_5, wpS.eq_6, wpS.eq_7, wpS.eq_8, wpS.eq_9, wpS.eq_10, wpS.eq_11, wpS.eq_12, wpS.eq_15, wpS.eq_16, wpS.eq_17, wpS.eq_18, wpS.eq_19, wpS.eq_20, wpE, wpEs, wpF, wpPar, setAll, wpBop, wpTs, wpIt, wpBind, wpBinds, see, seeS, getS, setS, List.map_cons, List.map_nil, List.cons_append, List.nil_append, List.append_nil, List.replicate, List.length_cons, List.length_nil, Nat.reduceAdd, Nat.reduceSub, pIsi, pB, pCmp, pEq, pLe, pLt, pGt, pGe, pI, pBin, pB1, pB2, pIx, pSl, pSeq, resD, wipeS, Bool.not_true, Bool.not_false, true_and, and_true, false_implies, implies_true, forall_const, Bool.false_eq_true, Bool.true_eq_false])
/-- data of small size and depth -/
def Fine (b : Nat) : Nat → D → Prop
  | _, .none | _, .bool _ | _, .int _ => True
  | _, .str z => z.length ≤ 1000 ∧ (PyData.str z).canLay0 = true
  | n + 1, .tuple ds => ds.length ≤ b ∧ ∀ d ∈ ds, Fine b n d
  | n + 1, .list ds => ds.length ≤ b ∧ ∀ d ∈ ds, Fine b n d
  | 0, .tuple ds => ds = []
  | 0, .list ds => ds = []
  | _, .dict _ => False
theorem Fine.lay {b : Nat} : ∀ {n : Nat} {d : D}, Fine b n d → Lay (n + 1) d
  | _, .none, _ => ⟨by rw [PyData.canLay0], by rw [PyData.depth]; omega⟩
  | _, .bool _, _ => ⟨by rw [PyData.canLay0], by rw [PyData.depth]; omega⟩
  | _, .int _, _ => ⟨by rw [PyData.canLay0], by rw [PyData.depth]; omega⟩
  | n, .str z, h => ⟨by cases n <;> exact h.2, by rw [PyData.depth]; omega⟩
  | n + 1, .tuple ds, h => Lay.tup fun d hd => Fine.lay (h.2 d hd)
  | n + 1, .list ds, h => Lay.lst fun d hd => Fine.lay (h.2 d hd)
  | 0, .tuple ds, h => by
    have h : ds = [] := h
    subst h
    exact Lay.tup fun d hd => nomatch hd
  | 0, .list ds, h => by
    have h : ds = [] := h
    subst h
    exact Lay.lst fun d hd => nomatch hd
  | n, .dict _, h => by cases n <;> exact h.elim
theorem Fine.sz {b n : Nat} {d : D} (h : Fine b n d) : szD d := by
  cases d <;> first | trivial | skip
  rename_i z
  have h : z.length ≤ 1000 := by cases n <;> exact h.1
  exact Nat.le_trans h (by decide)
theorem Fine.tup {b n : Nat} {ds : List D} (h : Fine b n (.tuple ds)) : ds.length ≤ b ∧ ∀ d ∈ ds, ∃ m, m < n ∧ Fine b m d := by
  cases n with
  | zero =>
    have h : ds = [] := h
    subst h
    exact ⟨Nat.zero_le _, fun d hd => nomatch hd⟩
  | succ n => exact ⟨h.1, fun d hd => ⟨n, Nat.lt_succ_self _, h.2 d hd⟩⟩
theorem Fine.sz2 {b n : Nat} {d : D} (h : Fine b n d) : sz2 d := by
  cases d <;> first | trivial | skip
  exact fun x hx => let ⟨_, _, f⟩ := h.tup.2 x hx; f.sz
theorem Fine.sz3 {b n : Nat} {d : D} (h : Fine b n d) : sz3 d := by
  cases d <;> first | trivial | skip
  exact fun x hx => let ⟨_, _, f⟩ := h.tup.2 x hx; f.sz2
theorem Fine.sz4 {b n : Nat} {d : D} (h : Fine b n d) : sz4 d := by
  cases d <;> first | trivial | skip
  exact fun x hx => let ⟨_, _, f⟩ := h.tup.2 x hx; f.sz3
structure G1 (Γ : Nat → Option Fn) : Prop where
  h17 : Γ 17 = some F17
  h18 : Γ 18 = some F18
  h19 : Γ 19 = some F19
  h20 : Γ 20 = some F20
  h21 : Γ 21 = some F21
  h22 : Γ 22 = some F22
section
variable {Γ : Nat → Option Fn} {C : Con} {n : Nat} (G : G1 Γ)
include G
theorem lbet_ok (d : D) (lo hi : Int) {Q : SW.S → Prop} (q : Q (.val (.bool (isBetD lo hi d)))) : wpCall Γ C (n + 1) 18 [.val d, .val (.int lo), .val (.int hi)] Q := by
  refine wp_call G.h18 rfl ?_
  unfold F18
  cases d <;> walk_at "wp" <;> try exact q
  rename_i i
  cases h : decide (lo ≤ i)
  · simpa [isBetD, h] using q
  · simpa [isBetD, h] using q
theorem ltext_ok (d : D) (t : Str) {Q : SW.S → Prop} (q : Q (.val (.bool (isTextD t d)))) : wpCall Γ C (n + 1) 19 [.val d, .val (.str t)] Q := by
  refine wp_call G.h19 rfl ?_
  unfold F19
  cases d <;> walk_at "wp" <;> exact q
theorem lword_ok (d : D) {b m : Nat} (hf : Fine b m d) {Q : SW.S → Prop} (q : Q (.val (.bool (isWordD d)))) : wpCall Γ C (n + 1) 20 [.val d] Q := by
  refine wp_call G.h20 rfl ?_
  unfold F20
  cases d <;> walk_at "wp" <;> try exact q
  rename_i z
  have hs := hf.sz
  refine ⟨hs, ?_⟩
  simp only [isWordD] at q
  cases h : decide (1 ≤ (z.length : Int))
  · rw [h] at q; exact q
  · rw [h] at q
    cases h2 : decide ((z.length : Int) ≤ 6)
    · rw [h2] at q; exact q
    · rw [h2] at q
      refine ⟨hs, ?_⟩
      refine lc (fun c : Nat => .str ⟨#[c]⟩) (fun c => [.val (.str z), .val (.str ⟨#[c]⟩)]) (fun c => !isLet c) (fun c => .str ⟨#[c]⟩) z.cps.toList [] (fun c hc R hR => hR) (fun c hc R hR => ?_) (fun c hc _ R hR => hR) ?_
      · have := in_letters2 c
        show R (!(!(Builtin.Str.occurrences ("abcdefghijklmnopqrstuvwxyz" : Str) ⟨#[c]⟩ 0 ("abcdefghijklmnopqrstuvwxyz" : Str).length 1).isEmpty))
        rw [this]
        exact hR
      · rw [List.nil_append]
        have hc : ∀ c ∈ z.cps.toList, c < 0x110000 := fun c hc => by
          have h3 := hf.lay.can
          have h4 : PyData.strOk z = true := by rw [PyData.canLay0] at h3; exact h3
          unfold PyData.strOk at h4
          have h5 := Array.all_eq_true'.mp h4 c (by simpa using hc)
          simpa using h5
        have one : ∀ d ∈ (z.cps.toList.filter fun c => !isLet c).map fun c => PyData.str ⟨#[c]⟩, Lay 0 d := fun d hd => by
          obtain ⟨c, h3, rfl⟩ := List.mem_map.mp hd
          have h4 := hc c (List.mem_filter.mp h3).1
          exact ⟨by rw [PyData.canLay0]; unfold PyData.strOk; simpa using h4, by rw [PyData.depth]; exact Nat.le_refl 0⟩
        refine ⟨(Lay.lst one).ok (by decide), (Lay.lst (n := 0) (ds := []) fun d hd => nomatch hd).ok (by decide), ?_⟩
        have e : PyData.eqv (.list ((z.cps.toList.filter fun c => !isLet c).map fun c => PyData.str ⟨#[c]⟩)) (.list []) = z.cps.toList.all isLet := by
          rw [PyData.eqv]
          cases h3 : z.cps.toList.filter fun c => !isLet c with
          | nil =>
            rw [List.map_nil, PyData.eqvAll]
            rw [List.filter_eq_nil_iff] at h3
            exact (List.all_eq_true.mpr fun c hc => by simpa using h3 c hc).symm
          | cons c l =>
            rw [List.map_cons, PyData.eqvAll]
            have h4 : c ∈ z.cps.toList.filter fun c => !isLet c := by rw [h3]; exact List.mem_cons_self
            obtain ⟨h5, h6⟩ := List.mem_filter.mp h4
            refine (List.all_eq_false.mpr ⟨c, h5, ?_⟩).symm
            simpa using h6
        show Q (.val (.bool (PyData.eqv (.list _) (.list []))))
        rw [e]
        exact q
where
  in_letters2 (c : Nat) : (!(Builtin.Str.occurrences ("abcdefghijklmnopqrstuvwxyz" : Str) ⟨#[c]⟩ 0 ("abcdefghijklmnopqrstuvwxyz" : Str).length 1).isEmpty) = isLet c := StrLaws.found_one ("abcdefghijklmnopqrstuvwxyz" : Str) c
end
theorem dedup_dis2 : ∀ {l : List D}, (dedup l).length = l.length → Dis l
  | [], _ => List.Pairwise.nil
  | d :: l, h => by
    have h : ((dedup l).filter fun e => !PyData.eqv d e).length + 1 = l.length + 1 := h
    have h1 := List.length_filter_le (fun e => !PyData.eqv d e) (dedup l)
    have h2 := dedup_len l
    have h3 : (dedup l).length = l.length := by omega
    have h4 := dedup_dis2 h3
    rw [dedup_dis h4] at h
    have h5 : (l.filter fun e => !PyData.eqv d e) = l := List.filter_eq_self.mpr (List.length_filter_eq_length_iff.mp (by omega))
    refine List.pairwise_cons.mpr ⟨fun x hx => ?_, h4⟩
    have := List.filter_eq_self.mp h5 x hx
    simpa using this
where
  dedup_len : ∀ l : List D, (dedup l).length ≤ l.length
    | [] => Nat.le_refl _
    | d :: l => by
      show ((dedup l).filter fun e => !PyData.eqv d e).length + 1 ≤ l.length + 1
      have := List.length_filter_le (fun e => !PyData.eqv d e) (dedup l)
      have := dedup_len l
      omega
section
variable {Γ : Nat → Option Fn} {C : Con} {n : Nat} (G : G1 Γ)
include G
theorem dis_last {l : List D} {x : D} (h : Dis (l ++ [x])) : (l.any fun z => PyData.eqv z x) = false := by
  have := (List.pairwise_append.mp h).2.2
  refine List.any_eq_false.mpr fun z hz => ?_
  simpa using this z hz x (List.mem_singleton.mpr rfl)
def noWish : D → Bool
  | .tuple [a, b, c] => !isBetD 0 10 c
  | _ => true
theorem cond17 {x : D} {s0 s1 s2 s4 s5 s6 : SW.S} : Ev (wpCall Γ C (n + 1)) C (.bop .Or (.cons (.not (.isi (.var 3) .tup)) (.cons (.cmp .NotEq (.b1 .len (.var 3)) (.int 3)) (.cons (.not (.call 18 (.cons (.ix (.var 3) (.int 2)) (.cons (.int 0) (.cons (.int 10) .nil))))) .nil))))
    (see true [s0, s1, s2, .val x, s4, s5, s6]) (.bool (noWish x)) := fun R hR => by
  cases x <;> walk_at "wp" <;> try exact hR
  rename_i xs
  match xs, hR with
  | [], hR => exact hR
  | [_], hR => exact hR
  | [_, _], hR => exact hR
  | _ :: _ :: _ :: _ :: _, hR =>
    simp only [List.length_cons]
    rw [decide_eq_false (by omega)]
    exact hR
  | [a, b', c], hR =>
    show wpCall Γ C (n + 1) 18 [.val c, .val (.int 0), .val (.int 10)] _
    exact lbet_ok G c 0 10 hR
theorem ev17a {a b' : D} {t : Str} {k k' m m' : Nat} (fa : Fine k m a) (fb : Fine k' m' b') {s0 s1 s2 s3 s6 : SW.S} : Ev (wpCall Γ C (n + 1)) C (.bop .And (.cons (.call 20 (.cons (.var 4) .nil)) (.cons (.bop .Or (.cons (.call 20 (.cons (.var 5) .nil)) (.cons (.call 19 (.cons (.var 5) (.cons (.str t) .nil))) .nil))) .nil)))
    (see false [s0, s1, s2, s3, .val a, .val b', s6]) (.bool (isWordD a && (isWordD b' || isTextD t b'))) := fun R hR => by
  show wpCall Γ C (n + 1) 20 [.val a] _
  refine lword_ok G a fa ?_
  cases wa : isWordD a
  · rw [wa] at hR; exact hR
  · rw [wa] at hR
    show wpCall Γ C (n + 1) 20 [.val b'] _
    refine lword_ok G b' fb ?_
    cases wb : isWordD b'
    · rw [wb] at hR
      show wpCall Γ C (n + 1) 19 [.val b', .val (.str t)] _
      exact ltext_ok G b' t hR
    · rw [wb] at hR; exact hR
theorem ev17b {a b' : D} {t : Str} {v : Bool} {s0 s1 s2 s3 : SW.S} : Ev (wpCall Γ C (n + 1)) C (.bop .Or (.cons (.var 6) (.cons (.bop .And (.cons (.call 19 (.cons (.var 4) (.cons (.str "*") .nil))) (.cons (.call 19 (.cons (.var 5) (.cons (.str t) .nil))) .nil))) .nil)))
    (see false [s0, s1, s2, s3, .val a, .val b', .val (.bool v)]) (.bool (v || (isTextD "*" a && isTextD t b'))) := fun R hR => by
  cases v with
  | true => exact hR
  | false =>
    show wpCall Γ C (n + 1) 19 [.val a, .val (.str "*")] _
    refine ltext_ok G a "*" ?_
    cases ta : isTextD "*" a
    · rw [ta] at hR; exact hR
    · rw [ta] at hR
      show wpCall Γ C (n + 1) 19 [.val b', .val (.str t)] _
      exact ltext_ok G b' t hR
end
theorem wish_law {a b' c : D} (hb : isBetD 0 10 c = true) (side : Bool) : isWishD side (.tuple [a, b', c]) = ((isWordD a && (isWordD b' || isTextD (if side then "" else "*") b')) || (isTextD "*" a && isTextD (if side then "" else "*") b')) := by
  simp only [isWishD, hb, Bool.true_and]
  cases side
  · simp only [isKindD, Bool.false_eq_true, if_false]
    cases isWordD a <;> cases isWordD b' <;> cases isTextD "*" a <;> cases isTextD "*" b' <;> rfl
  · simp only [isTongueD, if_true]
end SWL

namespace SWL
open PySem SW
local macro_rules | `(tactic| walk_at "wp") => `(tactic| simp only [wpSs, wpS.eq_1, wpS.eq_2, wpS.eq_3, wpS.eq_4, wpS.eq_5, wpS.eq_6, wpS.eq_7, wpS.eq_8, wpS.eq_9, wpS.eq_10, wpS.eq_11, wpS.eq_12, wpS.eq_15, wpS.eq_16, wpS.eq_17, wpS.eq_18, wpS.eq_19, wpS.eq_20, wpE, wpEs, wpF, wpPar, setAll, wpBop, wpTs, wpIt, wpBind, wpBinds, see, seeS, getS, setS, List.map_cons, List.map_nil, List.cons_append, List.nil_append, List.append_nil, List.replicate, List.length_cons, List.length_nil, Nat.reduceAdd, Nat.reduceSub, pIsi, pB, pCmp, pEq, pLe, pLt, pGt, pGe, pI, pBin, pB1, pB2, pIx, pSl, pSeq, resD, wipeS, Bool.not_true, Bool.not_false, true_and, and_true, false_implies, implies_true, forall_const, Bool.false_eq_true, Bool.true_eq_false])
/-- what holds at each turn of the law's list -/
def P17 (ds : List D) (side : Bool) (rest : List D) (ρ : List SW.S) : Prop := ∃ done s3 s4 s5 s6, done ++ rest = ds ∧ ρ = [.val (.tuple ds), .val (.int (if side then 1 else 0)), .own (done.map cut2), s3, s4, s5, s6] ∧ (∀ d ∈ done, isWishD side d = true) ∧ Dis (done.map cut2)
section
variable {Γ : Nat → Option Fn} {C : Con} {n : Nat} (G : G1 Γ)
set_option maxHeartbeats 1000000 in
theorem tail17 {ds done r : List D} {side : Bool} {a b' c : D} {k m ma mb : Nat} {fine : Bool} {Q : SW.S → Prop} (hf : Fine k m (.tuple ds)) (hm : m ≤ 20) (hlen : ¬ (6 : Int) < ds.length) (e : done ++ .tuple [a, b', c] :: r = ds) (h1 : ∀ d ∈ done, isWishD side d = true) (h2 : Dis (done.map cut2)) (fa : Fine k ma a) (fb : Fine k mb b') (la : ma < m) (lb : mb < m)
    (ef : fine = isWishD side (.tuple [a, b', c])) (q : Q (.val (.bool (ds.all (isWishD side) && decide (((dedup (ds.map cut2)).length : Int) = (ds.length : Int)))))) :
    wpSs (wpCall Γ C (n + 1)) C (.cons (.ife (.bop .Or (.cons (.not (.var 6)) (.cons (.cmp .In (.tup (.cons (.var 4) (.cons (.var 5) .nil))) (.var 2)) .nil))) (.cons (.ret (.bl false)) .nil) .nil) (.cons (.app false 2 (.tup (.cons (.var 4) (.cons (.var 5) .nil)))) .nil))
      [.val (.tuple ds), .val (.int (if side then 1 else 0)), .own (done.map cut2), .val (.tuple [a, b', c]), .val a, .val b', .val (.bool fine)] ⟨P17 ds side r, Q, fun _ => False, P17 ds side r⟩ := by
  have hx : PyData.tuple [a, b', c] ∈ ds := by rw [← e]; simp
  cases fine with
  | false =>
    have : ds.all (isWishD side) = false := List.all_eq_false.mpr ⟨_, hx, by rw [← ef]; decide⟩
    rw [this] at q
    exact q
  | true =>
    have ly : Lay (m + 1) (.tuple [a, b']) := Lay.tup fun y hy => by
      simp only [List.mem_cons, List.not_mem_nil, or_false] at hy
      rcases hy with rfl | rfl
      · exact fa.lay.mono (by omega)
      · exact fb.lay.mono (by omega)
    have lys : ∀ y ∈ done.map cut2, Lay (m + 1) y := fun y hy => by
      obtain ⟨z, hz, rfl⟩ := List.mem_map.mp hy
      obtain ⟨a2, b2, c2, rfl, _, _⟩ := wish_shape (h1 z hz)
      obtain ⟨mz, lz, fz⟩ := hf.tup.2 _ (show _ ∈ ds by rw [← e]; exact List.mem_append_left _ hz)
      refine (Lay.tup (n := mz) (ds := [a2, b2]) fun w hw => ?_).mono (by omega)
      obtain ⟨mw, lw, fw⟩ := fz.tup.2 w (by
        simp only [List.mem_cons, List.not_mem_nil, or_false] at hw ⊢
        rcases hw with h | h
        · exact .inl h
        · exact .inr (.inl h))
      exact fw.lay.mono (by omega)
    have ev : Ev (wpCall Γ C (n + 1)) C (.bop .Or (.cons (.not (.var 6)) (.cons (.cmp .In (.tup (.cons (.var 4) (.cons (.var 5) .nil))) (.var 2)) .nil)))
        (see true [.val (.tuple ds), .val (.int (if side then 1 else 0)), .own (done.map cut2), .val (.tuple [a, b', c]), .val a, .val b', .val (.bool true)]) (.bool ((done.map cut2).any fun z => PyData.eqv z (.tuple [a, b']))) := fun R hR => ⟨ly.ok (by omega), (Lay.lst lys).ok (by omega), hR⟩
    refine st_ife _ ev (fun hany => ?_) (fun hany => ?_)
    · have nd : ¬ Dis (ds.map cut2) := fun z => by
        rw [← e, List.map_append, List.map_cons] at z
        obtain ⟨p1, p2, p3⟩ := List.pairwise_append.mp z
        obtain ⟨y, hy, ey⟩ := List.any_eq_true.mp hany
        have h := p3 y hy _ List.mem_cons_self
        rw [show cut2 (.tuple [a, b', c]) = .tuple [a, b'] from rfl, ey] at h
        cases h
      have : decide (((dedup (ds.map cut2)).length : Int) = (ds.length : Int)) = false := decide_eq_false fun z => nd (dedup_dis2 (by rw [List.length_map]; omega))
      rw [this, Bool.and_false] at q
      exact q
    · refine ⟨fun z => absurd z (by decide), ?_, done ++ [.tuple [a, b', c]], .val (.tuple [a, b', c]), .val a, .val b', .val (.bool true), by rw [← e]; simp, by rw [List.map_append]; rfl, fun y hy => ?_, ?_⟩
      · have : done.length ≤ ds.length := by rw [← e]; simp
        rw [List.length_map]
        exact Nat.lt_of_le_of_lt (show done.length ≤ 1000 by omega) (by decide)
      · rcases List.mem_append.mp hy with z | z
        · exact h1 y z
        · rw [List.mem_singleton.mp z]; exact ef.symm
      · rw [List.map_append]
        refine List.pairwise_append.mpr ⟨h2, List.pairwise_singleton .., fun y hy z hz => ?_⟩
        rw [List.map_cons, List.map_nil, List.mem_singleton] at hz
        subst hz
        exact (by simpa using List.any_eq_false.mp hany y hy : PyData.eqv y (.tuple [a, b']) = false)
end
end SWL

namespace SWL
open PySem SW
local macro_rules | `(tactic| walk_at "wp") => `(tactic| simp only [wpSs, wpS.eq_1, wpS.eq_2, wpS.eq_3, wpS.eq_4, wpS.eq_5, wpS.eq_6, wpS.eq_7, wpS.eq_8, wpS.eq_9, wpS.eq_10, wpS.eq_11, wpS.eq_12, wpS.eq_15, wpS.eq_16, wpS.eq_17, wpS.eq_18, wpS.eq_19, wpS.eq_20, wpE, wpEs, wpF, wpPar, setAll, wpBop, wpTs, wpIt, wpBind, wpBinds, see, seeS, getS, setS, List.map_cons, List.map_nil, List.cons_append, List.nil_append, List.append_nil, List.replicate, List.length_cons, List.length_nil, Nat.reduceAdd, Nat.reduceSub, pIsi, pB, pCmp, pEq, pLe, pLt, pGt, pGe, pI, pBin, pB1, pB2, pIx, pSl, pSeq, resD, wipeS, Bool.not_true, Bool.not_false, true_and, and_true, false_implies, implies_true, forall_const, Bool.false_eq_true, Bool.true_eq_false])
theorem st_nil {Φ : Phi} {C : Con} {ρ : List SW.S} {E : SW.End} (h : E.nx ρ) : wpSs Φ C .nil ρ E := h
theorem st_par2 {Φ : Phi} {C : Con} {ρ : List SW.S} {E : SW.End} {rest : Sms} {i j : Nat} {e1 e2 : Ex} (d1 d2 : D) (h1 : Ev Φ C e1 (see false ρ) d1) (h2 : Ev Φ C e2 (see false ρ) d2) (h : wpSs Φ C rest (setS (setS ρ i (.val d1)) j (.val d2)) E) :
    wpSs Φ C (.cons (.par [(i, false), (j, false)] (.cons e1 (.cons e2 .nil))) rest) ρ E := h1 _ (h2 _ h)
section
variable {Γ : Nat → Option Fn} {C : Con} {n : Nat} (G : G1 Γ)
include G
set_option maxHeartbeats 1000000 in
theorem llist_ok (d : D) {b m : Nat} (hf : Fine b m d) (hm : m ≤ 20) (side : Bool) {Q : SW.S → Prop} (q : Q (.val (.bool (isWishesD side d)))) : wpCall Γ C (n + 2) 17 [.val d, .val (.int (if side then 1 else 0))] Q := by
  refine wp_call G.h17 rfl ?_
  unfold F17
  dsimp only [List.cons_append, List.nil_append, List.replicate, List.length_cons, List.length_nil, Nat.reduceAdd, Nat.reduceSub]
  have ev0 : Ev (wpCall Γ C (n + 1)) C (.bop .Or (.cons (.not (.isi (.var 0) .tup)) (.cons (.cmp .Gt (.b1 .len (.var 0)) (.int 6)) .nil))) (see true [.val d, .val (.int (if side then 1 else 0)), .no, .no, .no, .no, .no]) (.bool (match d with
      | .tuple ds => decide ((6 : Int) < ds.length)
      | _ => true)) := fun R hR => by
    cases d <;> exact hR
  refine st_ife _ ev0 (fun h => ?_) (fun h => ?_)
  · refine st_ret (.bool false) (fun R h => h) ?_
    have : isWishesD side d = false := by
      cases d <;> first | rfl | skip
      rename_i ds
      have h : decide ((6 : Int) < ds.length) = true := h
      have : decide ((ds.length : Int) > 6) = true := h
      simp only [isWishesD, this]
      rfl
    rw [this] at q
    exact q
  · obtain ⟨ds, rfl⟩ : ∃ ds, d = .tuple ds := by
      cases d <;> first | exact ⟨_, rfl⟩ | cases h
    have hlen : ¬ (6 : Int) < ds.length := of_decide_eq_false h
    have q : Q (.val (.bool (ds.all (isWishD side) && decide (((dedup (ds.map cut2)).length : Int) = (ds.length : Int))))) := by
      have e : decide ((ds.length : Int) > 6) = false := h
      simp only [isWishesD, e] at q
      exact q
    show wpS (wpCall Γ C (n + 1)) C (.forr (.nm 3) (.seq (.var 0)) _) [.val (.tuple ds), .val (.int (if side then 1 else 0)), .own [], .no, .no, .no, .no] _
    refine s_forD (wpCall_mono Γ C (n + 1)) ds (P17 ds side) (fun R h => h) ⟨[], .no, .no, .no, .no, rfl, rfl, fun d h => (nomatch h), List.Pairwise.nil⟩ ?_ ?_
    · rintro x r ρ ⟨done, s3, s4, s5, s6, e, rfl, h1, h2⟩
      have hx : x ∈ ds := by rw [← e]; simp
      obtain ⟨m', lm, fx⟩ := hf.tup.2 x hx
      show wpSs (wpCall Γ C (n + 1)) C _ [.val (.tuple ds), .val (.int (if side then 1 else 0)), .own (done.map cut2), .val x, s4, s5, s6] _
      refine st_ife _ (cond17 G) (fun hp => ?_) (fun hp => ?_)
      · refine st_ret (.bool false) (fun R h => h) ?_
        have : ds.all (isWishD side) = false := List.all_eq_false.mpr ⟨x, hx, fun z => by
          obtain ⟨a, b', c, rfl, _⟩ := wish_shape z
          simp only [isWishD, Bool.and_eq_true] at z
          have hp : (!isBetD 0 10 c) = true := hp
          rw [z.1] at hp
          cases hp⟩
        rw [this] at q
        exact q
      · obtain ⟨a, b', c, rfl, hb⟩ : ∃ a b' c, x = .tuple [a, b', c] ∧ isBetD 0 10 c = true := by
          unfold noWish at hp
          split at hp
          · exact ⟨_, _, _, rfl, by simpa using hp⟩
          · cases hp
        obtain ⟨ma, la, fa⟩ := fx.tup.2 a (by simp)
        obtain ⟨mb, lb, fb⟩ := fx.tup.2 b' (by simp)
        have wl := wish_law (a := a) (b' := b') hb side
        refine st_nil ?_
        dsimp only
        refine st_par2 a b' (fun R h => h) (fun R h => h) ?_
        dsimp only [setS]
        cases side with
        | true =>
          refine st_ife false (fun R h => h) (fun z => by cases z) (fun _ => ?_)
          refine st_set _ (ev17a G fa fb) (fun z => by cases z) ?_
          dsimp only [setS]
          refine st_set _ (ev17b G) (fun z => by cases z) ?_
          dsimp only [setS]
          refine st_nil ?_
          dsimp only
          exact tail17 hf hm hlen e h1 h2 fa fb (by omega) (by omega) wl.symm q
        | false =>
          refine st_ife true (fun R h => h) (fun _ => ?_) (fun z => by cases z)
          refine st_set _ (ev17a G fa fb) (fun z => by cases z) ?_
          dsimp only [setS]
          refine st_set _ (ev17b G) (fun z => by cases z) ?_
          dsimp only [setS]
          refine st_nil ?_
          dsimp only
          exact tail17 hf hm hlen e h1 h2 fa fb (by omega) (by omega) wl.symm q
    · rintro ρ ⟨done, s3, s4, s5, s6, e, rfl, h1, h2⟩
      rw [List.append_nil] at e
      subst e
      rw [List.all_eq_true.mpr h1, dedup_dis h2, List.length_map, decide_eq_true rfl] at q
      exact q
end
end SWL

namespace SWL
open PySem SW
local macro_rules | `(tactic| walk_at "wp") => `(tactic| simp only [wpSs, wpS.eq_1, wpS.eq_2, wpS.eq_3, wpS.eq_4, wpS.eq_5, wpS.eq_6, wpS.eq_7, wpS.eq_8, wpS.eq_9, wpS.eq_10, wpS.eq_11, wpS.eq_12, wpS.eq_15, wpS.eq_16, wpS.eq_17, wpS.eq_18, wpS.eq_19, wpS.eq_20, wpE, wpEs, wpF, wpPar, setAll, wpBop, wpTs, wpIt, wpBind, wpBinds, see, seeS, getS, setS, List.map_cons, List.map_nil, List.cons_append, List.nil_append, List.append_nil, List.replicate, List.length_cons, List.length_nil, Nat.reduceAdd, Nat.reduceSub, pIsi, pB, pCmp, pEq, pLe, pLt, pGt, pGe, pI, pBin, pB1, pB2, pIx, pSl, pSeq, resD, wipeS, Bool.not_true, Bool.not_false, true_and, and_true, false_implies, implies_true, forall_const, Bool.false_eq_true, Bool.true_eq_false])
def noMake : D → Bool
  | .tuple [_, _, c] => !isBetD 1 4 c
  | _ => true
def noPair : D → Bool
  | .tuple [a, _] => !isWordD a
  | _ => true
section
variable {Γ : Nat → Option Fn} {C : Con} {n : Nat} (G : G1 Γ)
include G
theorem cond21 {x : D} {s0 s2 : SW.S} : Ev (wpCall Γ C (n + 1)) C (.bop .Or (.cons (.not (.isi (.var 1) .tup)) (.cons (.cmp .NotEq (.b1 .len (.var 1)) (.int 3)) (.cons (.not (.call 18 (.cons (.ix (.var 1) (.int 2)) (.cons (.int 1) (.cons (.int 4) .nil))))) .nil))))
    (see true [s0, .val x, s2]) (.bool (noMake x)) := fun R hR => by
  cases x <;> walk_at "wp" <;> try exact hR
  rename_i xs
  match xs, hR with
  | [], hR => exact hR
  | [_], hR => exact hR
  | [_, _], hR => exact hR
  | _ :: _ :: _ :: _ :: _, hR =>
    simp only [List.length_cons]
    rw [decide_eq_false (by omega)]
    exact hR
  | [a, b', c], hR =>
    show wpCall Γ C (n + 1) 18 [.val c, .val (.int 1), .val (.int 4)] _
    exact lbet_ok G c 1 4 hR
theorem cond21b {x : D} {k m : Nat} (hf : Fine k m x) {s0 s1 : SW.S} : Ev (wpCall Γ C (n + 1)) C (.bop .Or (.cons (.not (.isi (.var 2) .tup)) (.cons (.cmp .NotEq (.b1 .len (.var 2)) (.int 2)) (.cons (.not (.call 20 (.cons (.ix (.var 2) (.int 0)) .nil))) .nil))))
    (see true [s0, s1, .val x]) (.bool (noPair x)) := fun R hR => by
  cases x <;> walk_at "wp" <;> try exact hR
  rename_i xs
  match xs, hR, hf with
  | [], hR, _ => exact hR
  | [_], hR, _ => exact hR
  | _ :: _ :: _ :: _, hR, _ =>
    simp only [List.length_cons]
    rw [decide_eq_false (by omega)]
    exact hR
  | [a, b'], hR, hf =>
    obtain ⟨_, _, fa⟩ := hf.tup.2 a (by simp)
    show wpCall Γ C (n + 1) 20 [.val a] _
    exact lword_ok G a fa hR
theorem cond21c {a0 a1 b0 b1 c : D} {k m m' : Nat} (fa : Fine k m a1) (fb : Fine k m' b1) {s0 s2 : SW.S} : Ev (wpCall Γ C (n + 1)) C (.bop .Or (.cons (.not (.call 20 (.cons (.ix (.ix (.var 1) (.int 0)) (.int 1)) .nil))) (.cons (.not (.bop .Or (.cons (.call 20 (.cons (.ix (.ix (.var 1) (.int 1)) (.int 1)) .nil)) (.cons (.call 19 (.cons (.ix (.ix (.var 1) (.int 1)) (.int 1)) (.cons (.str "") .nil))) .nil)))) .nil)))
    (see true [s0, .val (.tuple [.tuple [a0, a1], .tuple [b0, b1], c]), s2]) (.bool (!isWordD a1 || !(isWordD b1 || isTextD "" b1))) := fun R hR => by
  show wpCall Γ C (n + 1) 20 [.val a1] _
  refine lword_ok G a1 fa ?_
  cases wa : isWordD a1
  · rw [wa] at hR; exact hR
  · rw [wa] at hR
    show wpCall Γ C (n + 1) 20 [.val b1] _
    refine lword_ok G b1 fb ?_
    cases wb : isWordD b1
    · rw [wb] at hR
      show wpCall Γ C (n + 1) 19 [.val b1, .val (.str "")] _
      exact ltext_ok G b1 "" hR
    · rw [wb] at hR; exact hR
theorem pair_shape {x : D} (h : noPair x = false) : ∃ a b', x = .tuple [a, b'] ∧ isWordD a = true := by
  unfold noPair at h
  split at h
  · exact ⟨_, _, rfl, by simpa using h⟩
  · cases h
set_option maxHeartbeats 1000000 in
theorem lshelf_ok (d : D) {b m : Nat} (hf : Fine b m d) {Q : SW.S → Prop} (q : Q (.val (.bool (isShelfD d)))) : wpCall Γ C (n + 2) 21 [.val d] Q := by
  refine wp_call G.h21 rfl ?_
  unfold F21
  dsimp only [List.cons_append, List.nil_append, List.replicate, List.length_cons, List.length_nil, Nat.reduceAdd, Nat.reduceSub]
  have ev0 : Ev (wpCall Γ C (n + 1)) C (.bop .Or (.cons (.not (.isi (.var 0) .tup)) (.cons (.cmp .Gt (.b1 .len (.var 0)) (.int 6)) .nil))) (see true [.val d, .no, .no]) (.bool (match d with
      | .tuple ds => decide ((6 : Int) < ds.length)
      | _ => true)) := fun R hR => by
    cases d <;> exact hR
  refine st_ife _ ev0 (fun h => ?_) (fun h => ?_)
  · refine st_ret (.bool false) (fun R h => h) ?_
    have : isShelfD d = false := by
      cases d <;> first | rfl | skip
      rename_i ds
      have h : (6 : Int) < ds.length := of_decide_eq_true h
      simp only [isShelfD]
      rw [decide_eq_false (by omega)]
      rfl
    rw [this] at q
    exact q
  · obtain ⟨ds, rfl⟩ : ∃ ds, d = .tuple ds := by
      cases d <;> first | exact ⟨_, rfl⟩ | cases h
    have hlen : ¬ (6 : Int) < ds.length := of_decide_eq_false h
    have q : Q (.val (.bool (ds.all isMakeD))) := by
      simp only [isShelfD] at q
      rw [decide_eq_true (by omega)] at q
      exact q
    refine st_nil ?_
    refine s_forD (wpCall_mono Γ C (n + 1)) ds (fun rest ρ => ∃ done s1 s2, done ++ rest = ds ∧ ρ = [.val (.tuple ds), s1, s2] ∧ ∀ d ∈ done, isMakeD d = true) (fun R h => h) ⟨[], .no, .no, rfl, rfl, fun d h => (nomatch h)⟩ ?_ ?_
    · rintro x r ρ ⟨done, s1, s2, e, rfl, h1⟩
      have hx : x ∈ ds := by rw [← e]; simp
      obtain ⟨m', lm, fx⟩ := hf.tup.2 x hx
      have bad : isMakeD x = false → Q (.val (.bool false)) := fun z => by
        have : ds.all isMakeD = false := List.all_eq_false.mpr ⟨x, hx, by rw [z]; decide⟩
        rw [this] at q
        exact q
      dsimp only [wpBind, setS]
      refine st_ife _ (cond21 G) (fun hp => ?_) (fun hp => ?_)
      · refine st_ret (.bool false) (fun R h => h) (bad ?_)
        cases z : isMakeD x
        · rfl
        · exfalso
          unfold isMakeD at z
          split at z
          · rename_i a b' c
            simp only [Bool.and_eq_true] at z
            simp only [noMake, z.2.2] at hp
            cases hp
          · cases z
      · obtain ⟨a, b', c, rfl, hb⟩ : ∃ a b' c, x = .tuple [a, b', c] ∧ isBetD 1 4 c = true := by
          unfold noMake at hp
          split at hp
          · exact ⟨_, _, _, rfl, by simpa using hp⟩
          · cases hp
        obtain ⟨ma, la, fa⟩ := fx.tup.2 a (by simp)
        obtain ⟨mb, lb, fb⟩ := fx.tup.2 b' (by simp)
        refine st_nil ?_
        refine s_forD (wpCall_mono Γ C (n + 1)) [a, b'] (fun rest ρ => ∃ done s2, done ++ rest = [a, b'] ∧ ρ = [.val (.tuple ds), .val (.tuple [a, b', c]), s2] ∧ ∀ d ∈ done, noPair d = false) (fun R h => h) ⟨[], s2, rfl, rfl, fun d h => (nomatch h)⟩ ?_ ?_
        · rintro y r2 ρ ⟨done2, t2, e2, rfl, k1⟩
          have hy : y ∈ [a, b'] := by rw [← e2]; simp
          have fy : ∃ my, Fine b my y := by
            simp only [List.mem_cons, List.not_mem_nil, or_false] at hy
            rcases hy with rfl | rfl
            · exact ⟨_, fa⟩
            · exact ⟨_, fb⟩
          obtain ⟨my, fy⟩ := fy
          dsimp only [wpBind, setS]
          refine st_ife _ (cond21b G fy) (fun hp2 => ?_) (fun hp2 => ?_)
          · refine st_ret (.bool false) (fun R h => h) (bad ?_)
            cases z : isMakeD (.tuple [a, b', c])
            · rfl
            · exfalso
              simp only [isMakeD, Bool.and_eq_true] at z
              obtain ⟨z1, z2, _⟩ := z
              simp only [List.mem_cons, List.not_mem_nil, or_false] at hy
              rcases hy with rfl | rfl
              · unfold isKindD at z1
                split at z1
                · simp only [Bool.and_eq_true] at z1
                  simp only [noPair, z1.1] at hp2
                  cases hp2
                · cases z1
              · unfold isTongueD at z2
                split at z2
                · simp only [Bool.and_eq_true] at z2
                  simp only [noPair, z2.1] at hp2
                  cases hp2
                · cases z2
          · refine st_nil ?_
            dsimp only
            refine st_nil ⟨done2 ++ [y], .val y, by rw [← e2]; simp, rfl, fun w hw => ?_⟩
            rcases List.mem_append.mp hw with z | z
            · exact k1 w z
            · rw [List.mem_singleton.mp z]; exact hp2
        · rintro ρ ⟨done2, t2, e2, rfl, k1⟩
          rw [List.append_nil] at e2
          subst e2
          obtain ⟨a0, a1, rfl, wa⟩ := pair_shape G (k1 a (by simp))
          obtain ⟨b0, b1, rfl, wb⟩ := pair_shape G (k1 b' (by simp))
          obtain ⟨_, _, f1⟩ := fa.tup.2 a1 (by simp)
          obtain ⟨_, _, f2⟩ := fb.tup.2 b1 (by simp)
          have mk : isMakeD (.tuple [.tuple [a0, a1], .tuple [b0, b1], c]) = (isWordD a1 && (isWordD b1 || isTextD "" b1)) := by
            simp only [isMakeD, isKindD, isTongueD, wa, wb, hb, Bool.true_and, Bool.and_true]
          refine st_ife _ (cond21c G f1 f2) (fun z => ?_) (fun z => ?_)
          · refine st_ret (.bool false) (fun R h => h) (bad ?_)
            rw [mk]
            revert z
            cases isWordD a1 <;> cases isWordD b1 <;> cases isTextD "" b1 <;> decide
          · refine st_nil ?_
            dsimp only
            refine st_nil ⟨done ++ [.tuple [.tuple [a0, a1], .tuple [b0, b1], c]], _, _, by rw [← e]; simp, rfl, fun w hw => ?_⟩
            rcases List.mem_append.mp hw with y | y
            · exact h1 w y
            · rw [List.mem_singleton.mp y, mk]
              revert z
              cases isWordD a1 <;> cases isWordD b1 <;> cases isTextD "" b1 <;> decide
    · rintro ρ ⟨done, s1, s2, e, rfl, h1⟩
      rw [List.append_nil] at e
      subst e
      refine st_ret (.bool true) (fun R h => h) ?_
      rw [List.all_eq_true.mpr h1] at q
      exact q
end
end SWL

namespace SWL
open PySem SW
local macro_rules | `(tactic| walk_at "wp") => `(tactic| simp only [wpSs, wpS.eq_1, wpS.eq_2, wpS.eq_3, wpS.eq_4, wpS.eq_5, wpS.eq_6, wpS.eq_7, wpS.eq_8, wpS.eq_9, wpS.eq_10, wpS.eq_11, wpS.eq_12, wpS.eq_15, wpS.eq_16, wpS.eq_17, wpS.eq_18, wpS.eq_19, wpS.eq_20, wpE, wpEs, wpF, wpPar, setAll, wpBop, wpTs, wpIt, wpBind, wpBinds, see, seeS, getS, setS, List.map_cons, List.map_nil, List.cons_append, List.nil_append, List.append_nil, List.replicate, List.length_cons, List.length_nil, Nat.reduceAdd, Nat.reduceSub, pIsi, pB, pCmp, pEq, pLe, pLt, pGt, pGe, pI, pBin, pB1, pB2, pIx, pSl, pSeq, resD, wipeS, Bool.not_true, Bool.not_false, true_and, and_true, false_implies, implies_true, forall_const, Bool.false_eq_true, Bool.true_eq_false])
theorem Fine.mono {b b' : Nat} (hb : b ≤ b') : ∀ {n n' : Nat} {d : D}, n ≤ n' → Fine b n d → Fine b' n' d
  | n, n', .none, _, _ => by cases n' <;> trivial
  | n, n', .bool _, _, _ => by cases n' <;> trivial
  | n, n', .int _, _, _ => by cases n' <;> trivial
  | n, n', .str z, _, h => by
    have h : z.length ≤ 1000 ∧ (PyData.str z).canLay0 = true := by cases n <;> exact h
    cases n' <;> exact h
  | 0, n', .tuple ds, _, h => by
    have h : ds = [] := h
    subst h
    cases n' with
    | zero => rfl
    | succ n' => exact ⟨Nat.zero_le _, fun d hd => nomatch hd⟩
  | 0, n', .list ds, _, h => by
    have h : ds = [] := h
    subst h
    cases n' with
    | zero => rfl
    | succ n' => exact ⟨Nat.zero_le _, fun d hd => nomatch hd⟩
  | n + 1, n', .tuple ds, hn, h => by
    cases n' with
    | zero => exact absurd hn (by omega)
    | succ n' => exact ⟨Nat.le_trans h.1 hb, fun d hd => Fine.mono hb (Nat.le_of_succ_le_succ hn) (h.2 d hd)⟩
  | n + 1, n', .list ds, hn, h => by
    cases n' with
    | zero => exact absurd hn (by omega)
    | succ n' => exact ⟨Nat.le_trans h.1 hb, fun d hd => Fine.mono hb (Nat.le_of_succ_le_succ hn) (h.2 d hd)⟩
  | n, n', .dict _, _, h => by cases n <;> exact h.elim
theorem cut_sub {ds : List D} {lo hi : Option Int} : (∀ x ∈ cutD ds lo hi, x ∈ ds) ∧ (cutD ds lo hi).length ≤ ds.length := by
  unfold cutD
  refine ⟨fun x hx => List.mem_of_mem_drop (List.mem_of_mem_take hx), ?_⟩
  rw [List.length_take, List.length_drop]
  omega
/-- an expression's possible values -/
def EvA (Φ : Phi) (C : Con) (e : Ex) (ρ : List SW.S) (Good : D → Prop) : Prop := ∀ R : D → Prop, (∀ d, Good d → R d) → wpE Φ C e ρ R
theorem st_ifeA {Φ : Phi} {C : Con} {ρ : List SW.S} {E : SW.End} {rest : Sms} {c : Ex} {a b : Sms} (Good : Bool → Prop) (hc : EvA Φ C c (see true ρ) fun d => ∃ p, d = .bool p ∧ Good p) (h1 : Good true → wpSs Φ C a ρ { E with nx := fun ρ' => wpSs Φ C rest ρ' E }) (h0 : Good false → wpSs Φ C b ρ { E with nx := fun ρ' => wpSs Φ C rest ρ' E }) : wpSs Φ C (.cons (.ife c a b) rest) ρ E := by
  refine hc _ fun d hd => ?_
  obtain ⟨p, rfl, hp⟩ := hd
  cases p with
  | true => exact h1 hp
  | false => exact h0 hp
theorem st_setA {Φ : Phi} {C : Con} {ρ : List SW.S} {E : SW.End} {rest : Sms} {i : Nat} {e : Ex} (Good : D → Prop) (he : EvA Φ C e (see false ρ) Good) (h : ∀ d, Good d → wpSs Φ C rest (setS ρ i (.val d)) E) : wpSs Φ C (.cons (.set false i e) rest) ρ E := he _ fun d hd => ⟨fun z => absurd z (by decide), h d hd⟩
theorem st_retA {Φ : Phi} {C : Con} {ρ : List SW.S} {E : SW.End} {rest : Sms} {e : Ex} (Good : D → Prop) (he : EvA Φ C e (see true ρ) Good) (h : ∀ d, Good d → E.rt (.val d)) : wpSs Φ C (.cons (.ret e) rest) ρ E := he _ h
/-- texts, ints, tuples of these -/
def Raw (b : Nat) : Nat → D → Prop
  | _, .int _ => True
  | _, .str z => z.length ≤ 1000 ∧ (PyData.str z).canLay0 = true
  | n + 1, .tuple ds => ds.length ≤ b ∧ ∀ d ∈ ds, Raw b n d
  | 0, .tuple ds => ds = []
  | _, _ => False
theorem Raw.fine {b : Nat} : ∀ {n : Nat} {d : D}, Raw b n d → Fine b n d
  | n, .int _, _ => by cases n <;> trivial
  | n, .str z, h => by
    have h : z.length ≤ 1000 ∧ (PyData.str z).canLay0 = true := by cases n <;> exact h
    cases n <;> exact h
  | 0, .tuple ds, h => h
  | n + 1, .tuple ds, h => ⟨h.1, fun d hd => Raw.fine (h.2 d hd)⟩
  | n, .none, h => by cases n <;> exact h.elim
  | n, .bool _, h => by cases n <;> exact h.elim
  | n, .list _, h => by cases n <;> exact h.elim
  | n, .dict _, h => by cases n <;> exact h.elim
def someD : List D := [.none, .bool true, .bool false, .int 0, .int 1, .int 10, .int 11, .int (-1), .str "", .str "*", .str "a", .str "A", .str "aaaaaa", .str "aaaaaaa", .tuple [], .list [], .tuple [.str "a", .str ""]]
theorem some_fine {b n : Nat} (hb : 2 ≤ b) {d : D} (h : d ∈ someD) : Fine b (n + 1) d := by
  simp only [someD, List.mem_cons, List.not_mem_nil, or_false] at h
  have st : ∀ z : Str, z.length ≤ 1000 → (PyData.str z).canLay0 = true → ∀ k, Fine b k (.str z) := fun z h1 h2 k => by cases k <;> exact ⟨h1, h2⟩
  rcases h with rfl | rfl | rfl | rfl | rfl | rfl | rfl | rfl | rfl | rfl | rfl | rfl | rfl | rfl | rfl | rfl | rfl
  all_goals first | trivial | exact st _ (by decide +kernel) (by decide +kernel) _ | exact ⟨Nat.zero_le _, fun d hd => (nomatch hd)⟩ | skip
  refine ⟨hb, fun d hd => ?_⟩
  simp only [List.mem_cons, List.not_mem_nil, or_false] at hd
  rcases hd with rfl | rfl <;> exact st _ (by decide +kernel) (by decide +kernel) _
section
variable {Γ : Nat → Option Fn} {C : Con}
set_option maxHeartbeats 1000000 in
theorem parted_step (G : G1 Γ) (L : GL Γ) {b n N : Nat} (hb : b ≤ 500) {d : D} (hd : Raw b n d) (hn : n ≤ 20) (rec : ∀ ds, d = .tuple ds → ∀ x ∈ ds, ∀ {Q : SW.S → Prop}, (∀ r, Fine (2 * b + 2) (n + 1) r → Q (.val r)) → wpCall Γ C (N + 2) 22 [.src, .val x] Q)
    {Q : SW.S → Prop} (q : ∀ r, Fine (2 * b + 2) (n + 2) r → Q (.val r)) : wpCall Γ C (N + 3) 22 [.src, .val d] Q := by
  refine wp_call G.h22 rfl ?_
  unfold F22
  dsimp only [List.cons_append, List.nil_append, List.replicate, List.length_cons, List.length_nil, Nat.reduceAdd, Nat.reduceSub]
  have hf := hd.fine
  refine st_ifeA (fun p => p = true → ∃ ds, d = .tuple ds ∧ ds ≠ []) (fun R hR => ?_) (fun hp => ?_) (fun _ => ?_)
  · cases d <;> first | exact hR _ ⟨false, rfl, fun z => by cases z⟩ | skip
    rename_i ds
    refine ⟨hf.lay.ok (by omega), (Lay.tup (n := 0) (ds := []) fun d hd => nomatch hd).ok (by decide), ?_⟩
    cases ds with
    | nil => exact hR _ ⟨false, rfl, fun z => by cases z⟩
    | cons x xs =>
      show wpCall Γ C (N + 1 + 1) 1 [.src, .val (.int 5)] _
      refine draw_ok (by decide) (by decide) fun k h0 h1 => ?_
      exact hR (.bool (decide (0 < k))) ⟨_, rfl, fun _ => ⟨_, rfl, List.cons_ne_nil _ _⟩⟩
  · obtain ⟨ds, rfl, hne⟩ := hp rfl
    have hp := List.length_pos_iff.mpr hne
    have hl := hf.tup.1
    have el : ∀ x ∈ ds, Fine (2 * b + 2) (n + 1) x := fun x hx => let ⟨m, lm, fx⟩ := hf.tup.2 x hx; Fine.mono (by omega) (by omega) fx
    refine st_setA (fun d => ∃ k : Int, d = .int k ∧ 0 ≤ k ∧ k < ds.length) (fun R hR => ?_) fun d2 hd2 => ?_
    · show wpCall Γ C (N + 1 + 1) 1 [.src, .val (.int (ds.length : Int))] _
      exact draw_ok (by omega) (by omega) fun k h0 h1 => hR _ ⟨k, rfl, h0, h1⟩
    obtain ⟨at', rfl, a0, a1⟩ := hd2
    dsimp only [setS]
    refine st_setA (fun d => ∃ k : Int, d = .int k) (fun R hR => ?_) fun d2 hd2 => ?_
    · show wpCall Γ C (N + 1 + 1) 1 [.src, .val (.int 9)] _
      exact draw_ok (by decide) (by decide) fun k h0 h1 => hR _ ⟨k, rfl⟩
    obtain ⟨way, rfl⟩ := hd2
    dsimp only [setS]
    have two : ∀ lo hi lo' hi' : Option Int, Fine (2 * b + 2) (n + 2) (.tuple (cutD ds lo hi ++ cutD ds lo' hi')) := fun lo hi lo' hi' => by
      have c1 := cut_sub (ds := ds) (lo := lo) (hi := hi)
      have c2 := cut_sub (ds := ds) (lo := lo') (hi := hi')
      refine ⟨by rw [List.length_append]; omega, fun x hx => ?_⟩
      rcases List.mem_append.mp hx with z | z
      · exact el x (c1.1 x z)
      · exact el x (c2.1 x z)
    have len2 : ∀ lo hi lo' hi' : Option Int, (cutD ds lo hi).length + (cutD ds lo' hi').length ≤ sizeLine := fun lo hi lo' hi' => by
      have c1 := (cut_sub (ds := ds) (lo := lo) (hi := hi)).2
      have c2 := (cut_sub (ds := ds) (lo := lo') (hi := hi')).2
      exact Nat.le_trans (show _ ≤ 2000 by omega) (by decide)
    refine st_ife (decide (way = 0)) (fun R hR => hR) (fun _ => ?_) (fun _ => st_nil ?_)
    · exact st_ret (.tuple (cutD ds none (some at') ++ cutD ds (some (at' + 1)) none)) (fun R hR => ⟨len2 _ _ _ _, hR⟩) (q _ (two _ _ _ _))
    dsimp only
    refine st_ife (decide (way = 1)) (fun R hR => hR) (fun _ => ?_) (fun _ => st_nil ?_)
    · exact st_ret (.tuple (cutD ds none (some (at' + 1)) ++ cutD ds (some at') none)) (fun R hR => ⟨len2 _ _ _ _, hR⟩) (q _ (two _ _ _ _))
    dsimp only
    obtain ⟨x, ex, hx⟩ := atI_at a0 a1
    refine st_retA (fun d => ∃ r, Fine (2 * b + 2) (n + 1) r ∧ d = .tuple ((cutD ds none (some at') ++ [r]) ++ cutD ds (some (at' + 1)) none)) (fun R hR => ?_) (fun d2 hd2 => ?_)
    · show (match L2.atI ds at' with
        | some d => _
        | none => _)
      rw [ex]
      refine rec ds rfl x hx fun r fr => ?_
      have c1 := (cut_sub (ds := ds) (lo := none) (hi := some at')).2
      have c2 := (cut_sub (ds := ds) (lo := some (at' + 1)) (hi := none)).2
      refine ⟨?_, ?_, hR _ ⟨r, fr, rfl⟩⟩
      · exact Nat.le_trans (show _ ≤ 2000 by simp only [List.length_cons, List.length_nil]; omega) (by decide)
      · exact Nat.le_trans (show _ ≤ 2000 by simp only [List.length_append, List.length_cons, List.length_nil]; omega) (by decide)
    · obtain ⟨r, fr, rfl⟩ := hd2
      have c1 := cut_sub (ds := ds) (lo := none) (hi := some at')
      have c2 := cut_sub (ds := ds) (lo := some (at' + 1)) (hi := none)
      refine q _ ⟨by simp only [List.length_append, List.length_cons, List.length_nil]; omega, fun y hy => ?_⟩
      simp only [List.mem_append, List.mem_singleton] at hy
      rcases hy with (z | z) | z
      · exact el y (c1.1 y z)
      · rw [z]; exact fr
      · exact el y (c2.1 y z)
  · refine st_nil ?_
    dsimp only
    refine st_ifeA (fun _ => True) (fun R hR => ?_) (fun _ => ?_) (fun _ => st_nil ?_)
    · show wpCall Γ C (N + 1 + 1) 1 [.src, .val (.int 3)] _
      exact draw_ok (by decide) (by decide) fun k h0 h1 => hR (.bool (decide (k = 0))) ⟨_, rfl, trivial⟩
    · refine st_set (.list someD) (fun R hR => hR) (fun z => by cases z) ?_
      dsimp only [setS]
      refine st_retA (fun d => d ∈ someD) (fun R hR => ?_) (fun d2 hd2 => q _ (some_fine (by omega) hd2))
      show wpCall Γ C (N + 2) 13 [.src, .val (.list someD)] _
      exact choice_ok L (by simp [someD]) (by simp [someD]) fun d hd => hR d hd
    · dsimp only
      refine st_ife (pIsi d .int) (fun R hR => hR) (fun hp => ?_) (fun hp => st_nil ?_)
      · obtain ⟨v, rfl⟩ : ∃ v, d = .int v := by
          cases d <;> first | exact ⟨_, rfl⟩ | (cases n <;> exact hd.elim) | cases hp
        refine st_retA (fun d => ∃ i : Int, d = .int i) (fun R hR => ?_) (fun d2 hd2 => ?_)
        · show wpCall Γ C (N + 2) 13 [.src, .val (.list [.int (v + 1), .int (v - 1), .int 5])] _
          refine choice_ok L (by simp) (by simp) fun d hd => hR d ?_
          simp only [List.mem_cons, List.not_mem_nil, or_false] at hd
          rcases hd with rfl | rfl | rfl <;> exact ⟨_, rfl⟩
        · obtain ⟨i, rfl⟩ := hd2
          exact q _ trivial
      · dsimp only
        cases d <;> first | (cases n <;> exact hd.elim) | cases hp | skip
        · rename_i z _
          exact st_ret (.list [.str z]) (fun R hR => hR) (q _ ⟨by simp, fun y hy => by rw [List.mem_singleton.mp hy]; exact Fine.mono (by omega) (by omega) hf⟩)
        · rename_i ds _
          exact st_ret (.list ds) (fun R hR => hR) (q _ ⟨by have := hf.tup.1; omega, fun y hy => let ⟨m, lm, fx⟩ := hf.tup.2 y hy; Fine.mono (by omega) (by omega) fx⟩)
theorem parted_ok (G : G1 Γ) (L : GL Γ) {b : Nat} (hb : b ≤ 500) : ∀ (n f : Nat) (d : D), Raw b n d → n ≤ 20 → ∀ {Q : SW.S → Prop}, (∀ r, Fine (2 * b + 2) (n + 2) r → Q (.val r)) → wpCall Γ C (n + f + 3) 22 [.src, .val d] Q := by
  intro n
  induction n with
  | zero => exact fun f d hd hn Q q => parted_step G L hb hd hn (fun ds e x hx => by
      subst e
      have hd : ds = [] := hd
      subst hd
      cases hx) q
  | succ n ih =>
    intro f d hd hn Q q
    have e : n + 1 + f + 3 = (n + f + 1) + 3 := by omega
    rw [e]
    refine parted_step G L hb hd hn (fun ds e x hx Q' q' => ?_) q
    subst e
    exact ih f x (hd.2 x hx) (by omega) q'
end
end SWL

namespace SWL
open PySem SW
local macro_rules | `(tactic| walk_at "wp") => `(tactic| simp only [wpSs, wpS.eq_1, wpS.eq_2, wpS.eq_3, wpS.eq_4, wpS.eq_5, wpS.eq_6, wpS.eq_7, wpS.eq_8, wpS.eq_9, wpS.eq_10, wpS.eq_11, wpS.eq_12, wpS.eq_15, wpS.eq_16, wpS.eq_17, wpS.eq_18, wpS.eq_19, wpS.eq_20, wpE, wpEs, wpF, wpPar, setAll, wpBop, wpTs, wpIt, wpBind, wpBinds, see, seeS, getS, setS, List.map_cons, List.map_nil, List.cons_append, List.nil_append, List.append_nil, List.replicate, List.length_cons, List.length_nil, Nat.reduceAdd, Nat.reduceSub, pIsi, pB, pCmp, pEq, pLe, pLt, pGt, pGe, pI, pBin, pB1, pB2, pIx, pSl, pSeq, resD, wipeS, Bool.not_true, Bool.not_false, true_and, and_true, false_implies, implies_true, forall_const, Bool.false_eq_true, Bool.true_eq_false])
def law01 : Sms := (.cons (.forr (.nm 1) (.rng1 (.bin .Add (.int 1) (.b2 .min (.slen 0) (.int 10)))) (.cons (.news 2 0 (.var 1))  (.cons (.forr (.nm 3) (.rng1 (.int 5)) (.cons (.par [(4, false), (5, false)] (.cons (.calls 11 2 .nil) (.cons (.calls 23 2 (.cons (.int 6) .nil)) .nil)))  (.cons (.ife (.bop .Or (.cons (.cmp .IsNot (.call 25 (.cons (.var 4) .nil)) (.bl true)) (.cons (.cmp .IsNot (.call 34 (.cons (.var 5) .nil)) (.bl true)) .nil))) (.cons (.ret (.bl false))  .nil) .nil)  (.cons (.forr (.nm 6) (.rng1 (.int 8)) (.cons (.set false 7 (.calls 22 2 (.cons (.var 4) .nil)))  (.cons (.set false 8 (.bop .And (.cons (.isi (.var 7) .tup) (.cons (.cmp .Eq (.b1 .len (.var 7)) (.int 2)) .nil))))  (.cons (.set false 8 (.bop .And (.cons (.var 8) (.cons (.call 17 (.cons (.ix (.var 7) (.int 0)) (.cons (.int 0) .nil))) (.cons (.call 17 (.cons (.ix (.var 7) (.int 1)) (.cons (.int 1) .nil))) .nil)))))  (.cons (.set false 9 (.call 25 (.cons (.var 7) .nil)))  (.cons (.ife (.bop .Or (.cons (.not (.isi (.var 9) .bool)) (.cons (.cmp .NotEq (.var 9) (.var 8)) .nil))) (.cons (.ret (.bl false))  .nil) .nil)  (.cons (.set false 7 (.calls 22 2 (.cons (.var 5) .nil)))  (.cons (.set false 9 (.call 34 (.cons (.var 7) .nil)))  (.cons (.ife (.bop .Or (.cons (.not (.isi (.var 9) .bool)) (.cons (.cmp .NotEq (.var 9) (.call 21 (.cons (.var 7) .nil))) .nil))) (.cons (.ret (.bl false))  .nil) .nil)  .nil)))))))))  .nil))))  .nil)))  (.cons (.ife (.bop .Or (.cons (.cmp .IsNot (.call 25 (.cons (.tup (.cons (.tup (.cons (.tup (.cons (.str "*") (.cons (.str "a") (.cons (.int 1) .nil)))) .nil)) (.cons (.tup .nil) .nil))) .nil)) (.bl false)) (.cons (.cmp .IsNot (.call 25 (.cons (.tup (.cons (.tup .nil) (.cons (.tup (.cons (.tup (.cons (.str "*") (.cons (.str "a") (.cons (.int 1) .nil)))) .nil)) .nil))) .nil)) (.bl false)) .nil))) (.cons (.ret (.bl false))  .nil) .nil)  (.cons (.ret (.bop .And (.cons (.cmp .Is (.call 25 (.cons (.tup (.cons (.tup (.cons (.tup (.cons (.str "*") (.cons (.str "*") (.cons (.int 0) .nil)))) .nil)) (.cons (.tup (.cons (.tup (.cons (.str "*") (.cons (.str "") (.cons (.int 10) .nil)))) .nil)) .nil))) .nil)) (.bl true)) (.cons (.cmp .Is (.call 25 (.cons (.tup (.cons (.tup .nil) (.cons (.tup .nil) .nil))) .nil)) (.bl true)) .nil))))  .nil)))
theorem st_par2A {Φ : Phi} {C : Con} {ρ : List SW.S} {E : SW.End} {rest : Sms} {i j : Nat} {e1 e2 : Ex} (G1' G2' : D → Prop) (h1 : EvA Φ C e1 (see false ρ) G1') (h2 : EvA Φ C e2 (see false ρ) G2') (h : ∀ d1 d2, G1' d1 → G2' d2 → wpSs Φ C rest (setS (setS ρ i (.val d1)) j (.val d2)) E) :
    wpSs Φ C (.cons (.par [(i, false), (j, false)] (.cons e1 (.cons e2 .nil))) rest) ρ E := h1 _ fun d1 g1 => h2 _ fun d2 g2 => h d1 d2 g1 g2
theorem word_raw {b n : Nat} {d : D} (h : d ∈ wordsD) : Raw b n d := by
  have l := lay_word h
  have s := word_sz h
  simp only [wordsD, List.mem_cons, List.not_mem_nil, or_false] at h
  rcases h with rfl | rfl | rfl | rfl | rfl <;> cases n <;> exact ⟨by decide +kernel, l.can⟩
theorem WishR.raw {side : Bool} {d : D} (h : WishR side d) : Raw 6 1 d := by
  obtain ⟨a, b, i, rfl, ha, hb⟩ := h.sh
  refine ⟨by simp, fun x hx => ?_⟩
  simp only [List.mem_cons, List.not_mem_nil, or_false] at hx
  rcases hx with rfl | rfl | rfl
  · exact word_raw ha
  · exact word_raw hb
  · trivial
theorem AskerR.raw {d : D} (h : AskerR d) : Raw 6 3 d := by
  obtain ⟨a, b, rfl, ha, hb⟩ := h.ex
  refine ⟨by simp, fun x hx => ?_⟩
  simp only [List.mem_cons, List.not_mem_nil, or_false] at hx
  rcases hx with rfl | rfl
  · obtain ⟨es, rfl, h1, h2, _⟩ := ha.ex
    exact ⟨by omega, fun y hy => (h1 y hy).raw⟩
  · obtain ⟨es, rfl, h1, h2, _⟩ := hb.ex
    exact ⟨by omega, fun y hy => (h1 y hy).raw⟩
theorem MakeR.raw {d : D} (h : MakeR d) : Raw 6 2 d := by
  obtain ⟨a, b, c, e, i, rfl, h1, h2, h3, h4⟩ := h.sh
  refine ⟨by simp, fun x hx => ?_⟩
  simp only [List.mem_cons, List.not_mem_nil, or_false] at hx
  rcases hx with rfl | rfl | rfl
  · refine ⟨by simp, fun x hx => ?_⟩
    simp only [List.mem_cons, List.not_mem_nil, or_false] at hx
    rcases hx with rfl | rfl
    · exact word_raw h1
    · exact word_raw h2
  · refine ⟨by simp, fun x hx => ?_⟩
    simp only [List.mem_cons, List.not_mem_nil, or_false] at hx
    rcases hx with rfl | rfl
    · exact word_raw h3
    · exact word_raw h4
  · trivial
theorem ShelfR.raw {d : D} (h : ShelfR 6 d) : Raw 6 3 d := by
  obtain ⟨es, rfl, h1, h2⟩ := h.ex
  exact ⟨h2, fun y hy => (h1 y hy).raw⟩
def is2 : D → Bool
  | .tuple ds => decide ((ds.length : Int) = 2)
  | _ => false
theorem st_news {Φ : Phi} {C : Con} {ρ : List SW.S} {E : SW.End} {rest : Sms} {i j : Nat} {e : Ex} {ns : List Int} {k : Int} (h0 : getS ρ j = .scr ns) (he : Ev Φ C e (see false ρ) (.int k)) (hk : 0 ≤ k ∧ k ≤ 1048576) (h : wpSs Φ C rest (setS (kill ρ) i .src) E) : wpSs Φ C (.cons (.news i j e) rest) ρ E := by
  show (match getS ρ j with
    | .scr ns => wpE Φ C e (see false ρ) fun d => pI d fun k => (0 ≤ k ∧ k ≤ 1048576) ∧ wpSs Φ C rest (setS (kill ρ) i .src) E
    | _ => False)
  rw [h0]
  exact he _ ⟨hk, h⟩
def P01 (ns : List Int) (rest : List Nat) (ρ : List SW.S) : Prop := (∀ x ∈ rest, x ≤ 20) ∧ ∃ s1 s2 s3 s4 s5 s6 s7 s8 s9, ρ = [.scr ns, s1, s2, s3, s4, s5, s6, s7, s8, s9]
def P01t (ns : List Int) (rest : List Nat) (ρ : List SW.S) : Prop := ∃ s1 s3 s4 s5 s6 s7 s8 s9, ρ = [.scr ns, s1, .src, s3, s4, s5, s6, s7, s8, s9]
def P01a (ns : List Int) (a sh : D) (rest : List Nat) (ρ : List SW.S) : Prop := ∃ s1 s3 s6 s7 s8 s9, ρ = [.scr ns, s1, .src, s3, .val a, .val sh, s6, s7, s8, s9]
section
variable {Φ : Phi} {C : Con} (hΦ : PhiMono Φ) (h25 : ∀ (d : D) (Q : SW.S → Prop), sz4 d → Q (.val (.bool (isAskerD d))) → Φ 25 [.val d] Q) (h34 : ∀ (d : D) (Q : SW.S → Prop), sz4 d → Q (.val (.bool (isShelfD d))) → Φ 34 [.val d] Q)
  (h11 : ∀ Q : SW.S → Prop, (∀ d, AskerR d → Q (.val d)) → Φ 11 [.src] Q) (h23 : ∀ Q : SW.S → Prop, (∀ d, ShelfR 6 d → Q (.val d)) → Φ 23 [.src, .val (.int 6)] Q)
  (h22 : ∀ (d : D) (Q : SW.S → Prop), Raw 6 3 d → (∀ r, Fine 14 5 r → Q (.val r)) → Φ 22 [.src, .val d] Q)
  (h17 : ∀ (d : D) (m : Nat) (side : Bool) (Q : SW.S → Prop), Fine 14 m d → m ≤ 20 → Q (.val (.bool (isWishesD side d))) → Φ 17 [.val d, .val (.int (if side then 1 else 0))] Q)
  (h21 : ∀ (d : D) (Q : SW.S → Prop), Fine 14 5 d → Q (.val (.bool (isShelfD d))) → Φ 21 [.val d] Q)
include hΦ h25 h34 h11 h23 h22 h17 h21
set_option maxHeartbeats 1000000 in
theorem law01_ok (ns : List Int) (hn : ns.length ≤ 63) : wpSs Φ C law01 [.scr ns, .no, .no, .no, .no, .no, .no, .no, .no, .no] lawEnd := by
  unfold law01
  refine s_for' hΦ (fun k : Nat => PyData.int (0 + (k : Nat))) (List.range ((1 + (if (10 : Int) < (ns.length : Int) then 10 else (ns.length : Int))) - 0).toNat) (P01 ns) (fun R hR => ⟨⟨by split <;> omega, by split <;> omega⟩, hR⟩) ⟨fun x hx => ?_, .no, .no, .no, .no, .no, .no, .no, .no, .no, rfl⟩ ?_ ?_
  · have := List.mem_range.mp hx
    split at this <;> omega
  · rintro x r ρ ⟨hx, s1, s2, s3, s4, s5, s6, s7, s8, s9, rfl⟩
    have x20 := hx x List.mem_cons_self
    dsimp only [wpBind, setS]
    refine st_news (ns := ns) (k := 0 + (x : Nat)) rfl (fun R h => h) ⟨by omega, by omega⟩ ?_
    dsimp only [kill, killS, List.map_cons, List.map_nil, setS]
    refine s_for' hΦ (fun k : Nat => PyData.int (0 + (k : Nat))) (List.range (5 - 0 : Int).toNat) (P01t ns) (fun R hR => ⟨⟨by decide, by decide⟩, hR⟩) ⟨_, _, _, _, _, _, _, _, rfl⟩ ?_ ?_
    · rintro y r2 ρ ⟨s1, s3, s4, s5, s6, s7, s8, s9, rfl⟩
      dsimp only [wpBind, setS]
      refine st_par2A AskerR (ShelfR 6) (fun R hR => h11 _ hR) (fun R hR => h23 _ hR) fun a sh ha hsh => ?_
      dsimp only [setS]
      obtain ⟨ha1, ha2⟩ := ha.ok
      obtain ⟨hs1, hs2⟩ := hsh.ok (by decide)
      refine st_ife false (fun R hR => ?_) (fun z => by cases z) (fun _ => st_nil ?_)
      · refine h25 a _ ha2 ?_
        rw [ha1]
        refine h34 sh _ hs2 ?_
        rw [hs1]
        exact hR
      dsimp only
      refine s_for' hΦ (fun k : Nat => PyData.int (0 + (k : Nat))) (List.range (8 - 0 : Int).toNat) (P01a ns a sh) (fun R hR => ⟨⟨by decide, by decide⟩, hR⟩) ⟨_, _, _, _, _, _, rfl⟩ ?_ ?_
      · rintro z r3 ρ ⟨s1, s3, s6, s7, s8, s9, rfl⟩
        dsimp only [wpBind, setS]
        refine st_setA (Fine 14 5) (fun R hR => ?_) (fun v hv => ?_)
        · exact h22 a _ ha.raw hR
        dsimp only [setS]
        refine st_set (.bool (is2 v)) (fun R hR => by cases v <;> exact hR) (fun z => by cases z) ?_
        dsimp only [setS]
        refine st_set (.bool (isAskerD v)) (fun R hR => ?_) (fun z => by cases z) ?_
        · by_cases h2 : is2 v = true
          · obtain ⟨p, q, rfl⟩ : ∃ p q, v = .tuple [p, q] := by
              cases v <;> first | cases h2 | skip
              rename_i ds
              have h2 : (ds.length : Int) = 2 := of_decide_eq_true h2
              match ds, h2 with
              | [p, q], _ => exact ⟨p, q, rfl⟩
              | [], h2 => simp at h2
              | [_], h2 => simp at h2
              | _ :: _ :: _ :: _, h2 => simp only [List.length_cons] at h2; omega
            obtain ⟨mp, lp, fp⟩ := hv.tup.2 p (by simp)
            obtain ⟨mq, lq, fq⟩ := hv.tup.2 q (by simp)
            refine h17 p mp false _ fp (by omega) ?_
            simp only [isAskerD] at hR
            cases w1 : isWishesD false p
            · rw [w1] at hR; exact hR
            · rw [w1] at hR
              exact h17 q mq true _ fq (by omega) hR
          · have h2 : is2 v = false := by simpa using h2
            have e : isAskerD v = false := by
              unfold isAskerD
              split
              · exact absurd h2 (by simp [is2])
              · rfl
            rw [e] at hR
            rw [h2]
            exact hR
        dsimp only [setS]
        refine st_set (.bool (isAskerD v)) (fun R hR => h25 v _ hv.sz4 hR) (fun z => by cases z) ?_
        dsimp only [setS]
        refine st_ife false (fun R hR => ?_) (fun z => by cases z) (fun _ => st_nil ?_)
        · show R (.bool (!decide (isAskerD v = isAskerD v)))
          rw [decide_eq_true rfl]
          exact hR
        dsimp only
        refine st_setA (Fine 14 5) (fun R hR => ?_) (fun v2 hv2 => ?_)
        · exact h22 sh _ hsh.raw hR
        dsimp only [setS]
        refine st_set (.bool (isShelfD v2)) (fun R hR => h34 v2 _ hv2.sz4 hR) (fun z => by cases z) ?_
        dsimp only [setS]
        refine st_ife false (fun R hR => ?_) (fun z => by cases z) (fun _ => st_nil ?_)
        · refine h21 v2 _ hv2 ?_
          show R (.bool (!decide (isShelfD v2 = isShelfD v2)))
          rw [decide_eq_true rfl]
          exact hR
        exact ⟨_, _, _, _, _, _, rfl⟩
      · rintro ρ ⟨s1, s3, s6, s7, s8, s9, rfl⟩
        exact ⟨_, _, _, _, _, _, _, _, rfl⟩
    · rintro ρ ⟨s1, s3, s4, s5, s6, s7, s8, s9, rfl⟩
      exact ⟨fun y hy => hx y (List.mem_cons_of_mem _ hy), _, _, _, _, _, _, _, _, _, rfl⟩
  · rintro ρ ⟨_, s1, s2, s3, s4, s5, s6, s7, s8, s9, rfl⟩
    refine st_ife false (fun R hR => ?_) (fun z => by cases z) (fun _ => st_nil ?_)
    · refine h25 (.tuple [.tuple [.tuple [.str "*", .str "a", .int 1]], .tuple []]) _ ?_ ?_
      · simp [sz4, sz3, sz2, szD]
        decide
      · rw [show isAskerD (.tuple [.tuple [.tuple [.str "*", .str "a", .int 1]], .tuple []]) = false by decide +kernel]
        refine h25 (.tuple [.tuple [], .tuple [.tuple [.str "*", .str "a", .int 1]]]) _ ?_ ?_
        · simp [sz4, sz3, sz2, szD]
          decide
        · rw [show isAskerD (.tuple [.tuple [], .tuple [.tuple [.str "*", .str "a", .int 1]]]) = false by decide +kernel]
          exact hR
    dsimp only
    refine st_ret (.bool true) (fun R hR => ?_) rfl
    refine h25 (.tuple [.tuple [.tuple [.str "*", .str "*", .int 0]], .tuple [.tuple [.str "*", .str "", .int 10]]]) _ ?_ ?_
    · simp [sz4, sz3, sz2, szD]
      decide
    · rw [show isAskerD (.tuple [.tuple [.tuple [.str "*", .str "*", .int 0]], .tuple [.tuple [.str "*", .str "", .int 10]]]) = true by decide +kernel]
      refine h25 (.tuple [.tuple [], .tuple []]) _ ?_ ?_
      · simp [sz4, sz3, sz2, szD]
      · rw [show isAskerD (.tuple [.tuple [], .tuple []]) = true by decide +kernel]
        exact hR
end
end SWL

namespace SWL
open PySem SW
def lawN : List Str := ["script", "k", "source", "turn", "asker", "shelf", "again_so", "value", "due", "found"]
def gam : Nat → Option Fn
  | 1 => some ⟨"_law_draw", 2, [], .nil⟩
  | 11 => some F11
  | 12 => some F12
  | 13 => some F13
  | 14 => some F14
  | 15 => some F15
  | 16 => some F16
  | 17 => some F17
  | 18 => some F18
  | 19 => some F19
  | 20 => some F20
  | 21 => some F21
  | 22 => some F22
  | 23 => some F23
  | 24 => some F24
  | 25 => some F25
  | 26 => some F26
  | 27 => some F27
  | 28 => some F28
  | 29 => some F29
  | 30 => some F30
  | 31 => some F31
  | 32 => some F32
  | 33 => some F33
  | 34 => some F34
  | 35 => some F35
  | _ => none
def con : Con
  | 1 => some (.str "abcdefghijklmnopqrstuvwxyz")
  | 2 => some (.int 6)
  | 3 => some (.int 4)
  | 4 => some (.int 10)
  | 5 => some (.int 6)
  | 6 => some (.int 6)
  | _ => none
def cnm : Nat → Str
  | 1 => "LETTERS"
  | 2 => "MOST_MAKES"
  | 3 => "MOST_QUALITY"
  | 4 => "MOST_SHARE"
  | 5 => "MOST_WISHES"
  | 6 => "MOST_WORD"
  | _ => ""
def cfg : Cfg0 := { Γ := gam, C := con, fs := [1, 11, 12, 13, 14, 15, 16, 17, 18, 19, 20, 21, 22, 23, 24, 25, 26, 27, 28, 29, 30, 31, 32, 33, 34, 35], cs := [1, 2, 3, 4, 5, 6], cn := cnm }
end SWL
namespace SWL
open PySem SW
theorem wp_end (ns : List Int) (hn : ns.length ≤ 63) : wpSs (wpCall cfg.Γ cfg.C 12) cfg.C law01 (.scr ns :: List.replicate (lawN.length - 1) .no) lawEnd := by
  have A : GA gam con := ⟨rfl, rfl, rfl, rfl, rfl, rfl, rfl, rfl, rfl, rfl, rfl, rfl, rfl⟩
  have B : GB gam con := ⟨rfl, rfl, rfl, rfl⟩
  have L : GL gam := ⟨rfl, rfl, rfl, rfl, rfl, rfl, rfl, rfl⟩
  have G : G1 gam := ⟨rfl, rfl, rfl, rfl, rfl, rfl⟩
  exact law01_ok (wpCall_mono gam con 12) (fun d Q hs q => asker_ok A (n := 7) d hs q) (fun d Q hs q => shelf_ok A B (n := 8) d hs q) (fun Q q => law_asker_ok L (n := 7) q) (fun Q q => law_shelf_ok L (n := 8) (m := 6) (by decide) q)
    (fun d Q hr q => parted_ok G L (b := 6) (by decide) 3 6 d hr (by decide) q) (fun d m side Q hf hm q => llist_ok G (n := 10) d hf hm side q) (fun d Q hf q => lshelf_ok G (n := 10) d hf q) ns hn
end SWL

open PySem PySem.W PyProof.Rows
set_option maxHeartbeats 0 in
theorem PySem.Challenge.cw_shelfwishes_k01_askers_recognized_holds : PySem.Challenge.rw_shelfwishes_k01_askers_recognized.Holds := by
  w_on; o_law; k_head; (case hw => w_witness2)
  k_fill
  refine L2.walk_of (l := PySem.Challenge.rw_shelfwishes_k01_askers_recognized) (n := 63) (k := 13) (x := "script") (CX := fun _ => C8.CX0) (sp := fun w => SW.spLaw _) rfl (by decide) rfl ⟨rfl, by decide, by decide⟩ (fun w h Y => PySem.W.kIn_of Y) ?F (fun _ _ a ns hl _ hS => ⟨a, ns, rfl, hS, hl, fun _ => rfl⟩) (fun _ _ _ _ _ h => h)
  case F =>
    intro w mg fa h KX G hmg
    refine' (?z : _ → _) (SW.law_all (c := SWL.cfg) (N := SWL.lawN) (body := SWL.law01) (n := 11) (l := [11, 12, 13, 14, 15, 16, 17, 18, 19, 20, 21, 22, 23, 24, 25, 26, 27, 28, 29, 30, 31, 32, 33, 34, 35]) KX G hmg ?nb ?cf ?df ?cov rfl ?d1 ?l1 ?l2 ?l3 ?l4 ?chk rfl ?s1 ?s2 ?s3 ?s4 ?s5 ?s6 ?w1 ?w2 ?w3 ?w4 ?w5 ?w6 ?wp)
    case z => exact fun ⟨fd, h1, h2⟩ => ⟨fd, h1, fun base _ _ => h2 _ _ base⟩
    case nb =>
      refine' SW.NBs.cons ?a1 ?r1; (case a1 => k_is)
      refine' SW.NBs.cons ?a2 ?r2; (case a2 => k_is)
      refine' SW.NBs.cons ?a3 ?r3; (case a3 => k_is)
      refine' SW.NBs.cons ?a4 ?r4; (case a4 => k_is)
      refine' SW.NBs.cons ?a5 ?r5; (case a5 => k_is)
      refine' SW.NBs.cons ?a6 ?r6; (case a6 => k_is)
      refine' SW.NBs.cons ?a7 ?r7; (case a7 => k_is)
      refine' SW.NBs.cons ?a8 ?r8; (case a8 => k_is)
      refine' SW.NBs.cons ?a9 ?r9; (case a9 => k_is)
      refine' SW.NBs.cons ?a10 ?r10; (case a10 => k_is)
      refine' SW.NBs.cons ?a11 ?r11; (case a11 => k_is)
      refine' SW.NBs.cons ?a12 ?r12; (case a12 => k_is)
      refine' SW.NBs.cons ?a13 ?r13; (case a13 => k_is)
      refine' SW.NBs.cons ?a14 ?r14; (case a14 => k_is)
      refine' SW.NBs.cons ?a15 ?r15; (case a15 => k_is)
      refine' SW.NBs.cons ?a16 ?r16; (case a16 => k_is)
      refine' SW.NBs.cons ?a17 ?r17; (case a17 => k_is)
      refine' SW.NBs.cons ?a18 ?r18; (case a18 => k_is)
      exact .nil
    case cf =>
      refine' SW.CFs.str rfl rfl ?a19 ?r19; (case a19 => k_is)
      refine' SW.CFs.int rfl rfl ?a20 ?r20; (case a20 => k_is)
      refine' SW.CFs.int rfl rfl ?a21 ?r21; (case a21 => k_is)
      refine' SW.CFs.int rfl rfl ?a22 ?r22; (case a22 => k_is)
      refine' SW.CFs.int rfl rfl ?a23 ?r23; (case a23 => k_is)
      refine' SW.CFs.int rfl rfl ?a24 ?r24; (case a24 => k_is)
      exact .nil
    case df =>
      refine' SW.DFs.cons (x := "_law_asker") (F := SWL.F11) rfl rfl ?a25 ?l25 ?c25 ?k25 ?h25 ?r25; (case a25 => k_is); (case l25 => k_is); (case c25 => k_is); (case k25 => k_is); (case h25 => decide +kernel)
      refine' SW.DFs.cons (x := "_law_kind_wishes") (F := SWL.F12) rfl rfl ?a26 ?l26 ?c26 ?k26 ?h26 ?r26; (case a26 => k_is); (case l26 => k_is); (case c26 => k_is); (case k26 => k_is); (case h26 => decide +kernel)
      refine' SW.DFs.cons (x := "_law_choice") (F := SWL.F13) rfl rfl ?a27 ?l27 ?c27 ?k27 ?h27 ?r27; (case a27 => k_is); (case l27 => k_is); (case c27 => k_is); (case k27 => k_is); (case h27 => decide +kernel)
      refine' SW.DFs.cons (x := "_law_once") (F := SWL.F14) rfl rfl ?a28 ?l28 ?c28 ?k28 ?h28 ?r28; (case a28 => k_is); (case l28 => k_is); (case c28 => k_is); (case k28 => k_is); (case h28 => decide +kernel)
      refine' SW.DFs.cons (x := "_law_share") (F := SWL.F15) rfl rfl ?a29 ?l29 ?c29 ?k29 ?h29 ?r29; (case a29 => k_is); (case l29 => k_is); (case c29 => k_is); (case k29 => k_is); (case h29 => decide +kernel)
      refine' SW.DFs.cons (x := "_law_tongue_wishes") (F := SWL.F16) rfl rfl ?a30 ?l30 ?c30 ?k30 ?h30 ?r30; (case a30 => k_is); (case l30 => k_is); (case c30 => k_is); (case k30 => k_is); (case h30 => decide +kernel)
      refine' SW.DFs.cons (x := "_law_is_list") (F := SWL.F17) rfl rfl ?a31 ?l31 ?c31 ?k31 ?h31 ?r31; (case a31 => k_is); (case l31 => k_is); (case c31 => k_is); (case k31 => k_is); (case h31 => decide +kernel)
      refine' SW.DFs.cons (x := "_law_is_between") (F := SWL.F18) rfl rfl ?a32 ?l32 ?c32 ?k32 ?h32 ?r32; (case a32 => k_is); (case l32 => k_is); (case c32 => k_is); (case k32 => k_is); (case h32 => decide +kernel)
      refine' SW.DFs.cons (x := "_law_is_text") (F := SWL.F19) rfl rfl ?a33 ?l33 ?c33 ?k33 ?h33 ?r33; (case a33 => k_is); (case l33 => k_is); (case c33 => k_is); (case k33 => k_is); (case h33 => decide +kernel)
      refine' SW.DFs.cons (x := "_law_is_word") (F := SWL.F20) rfl rfl ?a34 ?l34 ?c34 ?k34 ?h34 ?r34; (case a34 => k_is); (case l34 => k_is); (case c34 => k_is); (case k34 => k_is); (case h34 => decide +kernel)
      refine' SW.DFs.cons (x := "_law_is_shelf") (F := SWL.F21) rfl rfl ?a35 ?l35 ?c35 ?k35 ?h35 ?r35; (case a35 => k_is); (case l35 => k_is); (case c35 => k_is); (case k35 => k_is); (case h35 => decide +kernel)
      refine' SW.DFs.cons (x := "_law_parted") (F := SWL.F22) rfl rfl ?a36 ?l36 ?c36 ?k36 ?h36 ?r36; (case a36 => k_is); (case l36 => k_is); (case c36 => k_is); (case k36 => k_is); (case h36 => decide +kernel)
      refine' SW.DFs.cons (x := "_law_shelf") (F := SWL.F23) rfl rfl ?a37 ?l37 ?c37 ?k37 ?h37 ?r37; (case a37 => k_is); (case l37 => k_is); (case c37 => k_is); (case k37 => k_is); (case h37 => decide +kernel)
      refine' SW.DFs.cons (x := "_law_make") (F := SWL.F24) rfl rfl ?a38 ?l38 ?c38 ?k38 ?h38 ?r38; (case a38 => k_is); (case l38 => k_is); (case c38 => k_is); (case k38 => k_is); (case h38 => decide +kernel)
      refine' SW.DFs.cons (x := "is_asker") (F := SWL.F25) rfl rfl ?a39 ?l39 ?c39 ?k39 ?h39 ?r39; (case a39 => k_is); (case l39 => k_is); (case c39 => k_is); (case k39 => k_is); (case h39 => decide +kernel)
      refine' SW.DFs.cons (x := "is_wishes") (F := SWL.F26) rfl rfl ?a40 ?l40 ?c40 ?k40 ?h40 ?r40; (case a40 => k_is); (case l40 => k_is); (case c40 => k_is); (case k40 => k_is); (case h40 => decide +kernel)
      refine' SW.DFs.cons (x := "is_wish") (F := SWL.F27) rfl rfl ?a41 ?l41 ?c41 ?k41 ?h41 ?r41; (case a41 => k_is); (case l41 => k_is); (case c41 => k_is); (case k41 => k_is); (case h41 => decide +kernel)
      refine' SW.DFs.cons (x := "is_between") (F := SWL.F28) rfl rfl ?a42 ?l42 ?c42 ?k42 ?h42 ?r42; (case a42 => k_is); (case l42 => k_is); (case c42 => k_is); (case k42 => k_is); (case h42 => decide +kernel)
      refine' SW.DFs.cons (x := "is_empty") (F := SWL.F29) rfl rfl ?a43 ?l43 ?c43 ?k43 ?h43 ?r43; (case a43 => k_is); (case l43 => k_is); (case c43 => k_is); (case k43 => k_is); (case h43 => decide +kernel)
      refine' SW.DFs.cons (x := "is_kind") (F := SWL.F30) rfl rfl ?a44 ?l44 ?c44 ?k44 ?h44 ?r44; (case a44 => k_is); (case l44 => k_is); (case c44 => k_is); (case k44 => k_is); (case h44 => decide +kernel)
      refine' SW.DFs.cons (x := "is_word") (F := SWL.F31) rfl rfl ?a45 ?l45 ?c45 ?k45 ?h45 ?r45; (case a45 => k_is); (case l45 => k_is); (case c45 => k_is); (case k45 => k_is); (case h45 => decide +kernel)
      refine' SW.DFs.cons (x := "is_star") (F := SWL.F32) rfl rfl ?a46 ?l46 ?c46 ?k46 ?h46 ?r46; (case a46 => k_is); (case l46 => k_is); (case c46 => k_is); (case k46 => k_is); (case h46 => decide +kernel)
      refine' SW.DFs.cons (x := "is_tongue") (F := SWL.F33) rfl rfl ?a47 ?l47 ?c47 ?k47 ?h47 ?r47; (case a47 => k_is); (case l47 => k_is); (case c47 => k_is); (case k47 => k_is); (case h47 => decide +kernel)
      refine' SW.DFs.cons (x := "is_shelf") (F := SWL.F34) rfl rfl ?a48 ?l48 ?c48 ?k48 ?h48 ?r48; (case a48 => k_is); (case l48 => k_is); (case c48 => k_is); (case k48 => k_is); (case h48 => decide +kernel)
      refine' SW.DFs.cons (x := "is_make") (F := SWL.F35) rfl rfl ?a49 ?l49 ?c49 ?k49 ?h49 ?r49; (case a49 => k_is); (case l49 => k_is); (case c49 => k_is); (case k49 => k_is); (case h49 => decide +kernel)
      exact .nil
    case cov => decide
    case d1 => intro F e; cases e; exact ⟨rfl, rfl⟩
    case l1 => k_is
    case l2 => k_is
    case l3 => k_is
    case l4 => k_is
    case s1 => k_is
    case s2 => k_is
    case s3 => k_is
    case s4 => k_is
    case w1 => k_is
    case w2 => k_is
    case w3 => k_is
    case w4 => k_is
    case chk => decide +kernel
    case s5 => rfl
    case s6 => decide +kernel
    case w5 => rfl
    case w6 => decide +kernel
    case wp => exact SWL.wp_end
